/- Own work of this seat: PA, PB, PMk, PMade16, PRight, PNew, PInv, PNewOk, PSmall, PSame, PGo, PDq, PWork, PMut, PEng, PLowEq, PMutEq, PFrame, PText, PDq2, PChain, PStrong, PGstep. -/
import Derived.Test.YtcjjhmfdiiookaaGreatDoorMUGa
set_option linter.unusedVariables false
set_option linter.unusedSimpArgs false
set_option linter.unnecessarySimpa false
set_option linter.unusedSectionVars false
set_option linter.deprecated false
set_option maxRecDepth 20000
namespace Go.Pe.G
open Go.Pe
noncomputable section
theorem Zk {A B D:Type} {f:A→Option (xu A B D)} (Inv:A→Prop) (ms:A→Nat) (Q:xu Unit B D→Prop)
  (h: ∀a,Inv a→∃o,f a=some o∧match o with
   | .again a'=>Inv a'∧ms a'<ms a
   | .brk b=>Q (.brk b)
   | .ret c=>Q (.ret c)): ∀a,Inv a→ms a<YW→∃o,yA f a=some o∧Q o:=by
 have key: ∀(n:Nat) a,Inv a→ms a<n→∃o,uY f n a=some o∧Q o:=by
  intro n
  induction n with
  | zero=>intro a _ h;omega
  | succ n ih =>
   intro a ha hm
   obtain ⟨o,ho,hq⟩:=h a ha
   simp only [uY,ho,Option.bind_some]
   cases o with
   | again a'=>exact ih a' hq.1 (by have:=hq.2;omega)
   | brk b=>exact ⟨_,rfl,hq⟩
   | ret c=>exact ⟨_,rfl,hq⟩
 intro a ha hm
 rw [UI]
 exact key YW a ha hm
theorem w6 {n:Nat} (h:n<18446744073709551616):n<YW:=h
theorem yH {a:Int} (h: -9223372036854775808≤a) (h2:a<9223372036854775808):w64 a=a:=by
 rw [zmj];omega
def wc (n:Int):Int:=(n+9223372036854775808)%18446744073709551616-9223372036854775808
theorem wM:w64=wc:=funext zmj
theorem xq {a:Int} (h: -9223372036854775808≤a) (h2:a<9223372036854775808):wc a=a:=by unfold wc;omega
theorem zq {α:Type} (p:Prop) [Decidable p] (a b:α):(bif decide p then a else b)=if p then a else b:=by
 by_cases h:p<;>simp [h]
theorem yL {α:Type} (p:Prop) [Decidable p] (a b:α):(bif !(decide p) then a else b)=if p then b else a:=by
 by_cases h:p<;>simp [h]
theorem wD {α:Type} {l:List α} (h:l.length<4294967296):wH l=some l:=by
 rw [zsJ];simp [h]
theorem ut {α:Type} {l:List α} {i:Int} (h:0≤i):idx l i=l[i.toNat]? :=by
 unfold idx;simp [h]
theorem ZI {α:Type} {l:List α} {i:Int} (h:0≤i) (h2:i<l.length):xg l i=some i.toNat:=by
 unfold xg;simp [h,h2]
def bit (o:Int):BitVec 64:=if 1≤o∧o≤64 then 1#64 <<< (o-1).toNat else 0#64
theorem zus (a:Int):zii a=some (bit a,()):=by
 rw [zsA]
 simp only [zq]
 unfold bit
 by_cases h1:a<1
 ·rw [if_pos h1,if_neg (by omega)]
 ·rw [if_neg h1]
  by_cases h2:64<a
  ·rw [if_pos h2,if_neg (by omega)]
  ·rw [if_neg h2,yH (a:=a-1) (by omega) (by omega),if_neg (show ¬a-1<0 by omega),if_pos (show 1≤a∧a≤64 by omega),Nat.min_eq_left (by omega)]
theorem zp2 (s:BitVec 64) (o:Int):zem s o=some (!(decide (s&&&bit o=0#64)),()):=by
 rw [zsW,zus];rfl
theorem zmn (s:BitVec 64) (o:Int):zbu s o=some (s|||bit o,()):=by
 rw [zso,zus];rfl
def uA (t:zr) (o:Int):zr×Bool :=
 if t.Marks|||bit o=t.Marks then (t,false) else if t.Black&&&bit o=0#64 then ({t with Marks:=t.Marks|||bit o},true) else (t,false)
theorem zpu (t:zr) (o:Int):zcn t o=some ((uA t o).1,(uA t o).2,()):=by
 rw [zos,zmn,Option.bind_some,zq]
 unfold uA
 by_cases h1:t.Marks|||bit o=t.Marks
 ·rw [if_pos h1,if_pos h1]
 ·rw [if_neg h1,if_neg h1,zp2,Option.bind_some,yL]
  by_cases h2:t.Black&&&bit o=0#64
  ·rw [if_pos h2,if_pos h2]
  ·rw [if_neg h2,if_neg h2]
theorem zqM {m:List (BitVec 64)} (h:m.length<4294967296):xD m=some (m,()):=by
 rw [zbb,List.nil_append,wD h,Option.bind_some]
 cases m with
 | nil=>simp [zhR]
 | cons a l=>simp
theorem zko {m:List (List Int)} (h:m.length<4294967296):vw m=some (m,()):=by
 rw [zdx,List.nil_append,wD h,Option.bind_some]
 cases m with
 | nil=>simp [zhR]
 | cons a l=>simp
def ld (m:List (BitVec 64)) (a:Int):BitVec 64:=if 0≤a then m.getD a.toNat 0#64 else 0#64
def st (m:List (BitVec 64)) (a:Int) (v:BitVec 64):List (BitVec 64):=if 0≤a then m.set a.toNat v else m
def sw (m:List (BitVec 64)) (at_:Int) (a b:BitVec 64):List (BitVec 64)×Bool :=
 if 0≤at_∧at_<m.length∧ld m at_=a then (st m at_ b,true) else (m,false)
theorem ztl {m:List (BitVec 64)} {a:Int} (h:0≤a) (h2:a<m.length):m[a.toNat]? =some (ld m a):=by
 unfold ld
 rw [if_pos h,List.getD_eq_getElem?_getD,List.getElem?_eq_getElem (by omega)];rfl
theorem zux {m:List (BitVec 64)} {a:Int}:st m a (ld m a)=m:=by
 unfold st ld
 by_cases h:0≤a
 ·rw [if_pos h,if_pos h]
  by_cases h2:a.toNat<m.length
  ·rw [List.getD_eq_getElem?_getD,List.getElem?_eq_getElem h2];simp
  ·rw [List.set_eq_of_length_le (by omega)]
 ·rw [if_neg h]
theorem zv7 {m:List (BitVec 64)} {a:Int} (h:a<0∨m.length≤a):ld m a=0#64:=by
 unfold ld
 rcases h with h | h
 ·rw [if_neg (by omega)]
 ·split
  ·rw [List.getD_eq_getElem?_getD,List.getElem?_eq_none (by omega)];rfl
  ·rfl
theorem zv8 {m:List (BitVec 64)} {a:Int} {v:BitVec 64} (h:a<0∨m.length≤a):st m a v=m:=by
 unfold st
 rcases h with h | h
 ·rw [if_neg (by omega)]
 ·split
  ·rw [List.set_eq_of_length_le (by omega)]
  ·rfl
theorem zuy (m:List (BitVec 64)) (a:Int) (x y:BitVec 64): ∃b,YV m ⟨1,a,x,y⟩=some (m,ld m a,b,()):=by
 rw [ziP]
 simp only [zq,if_true]
 by_cases h1:a<0
 ·rw [if_pos h1,zv7 (.inl h1)];exact ⟨_,rfl⟩
 ·rw [if_neg h1]
  by_cases h2:(m.length:Int)≤a
  ·rw [if_pos h2,zv7 (.inr h2)];exact ⟨_,rfl⟩
  ·rw [if_neg h2,ut (by omega),ztl (by omega) (by omega),Option.bind_some,zri,Option.bind_some]
   simp
theorem zte {m:List (BitVec 64)} (hm:m.length<4294967296) (a:Int) (x y:BitVec 64): ∃v b,YV m ⟨2,a,x,y⟩=some (st m a x,v,b,()):=by
 rw [ziP]
 simp only [zq,if_true,if_neg (show ¬(2:Int)=1 by omega)]
 by_cases h1:a<0
 ·rw [if_pos h1,zv8 (.inl h1)];exact ⟨_,_,rfl⟩
 ·rw [if_neg h1]
  by_cases h2:(m.length:Int)≤a
  ·rw [if_pos h2,zv8 (.inr h2)];exact ⟨_,_,rfl⟩
  ·rw [if_neg h2,ut (by omega),ztl (by omega) (by omega),Option.bind_some,zrw,Option.bind_some,cond_true,yL]
   by_cases h3:ld m a=x
   ·rw [if_pos h3]
    subst h3
    rw [zux];exact ⟨_,_,rfl⟩
   ·rw [if_neg h3,zqM hm,Option.bind_some,ZI (l:=m) (by omega) (by omega),Option.bind_some]
    unfold st
    rw [if_pos (by omega)]
    exact ⟨_,_,rfl⟩
theorem zuC {m:List (BitVec 64)} (hm:m.length<4294967296) (a:Int) (x y:BitVec 64): ∃v,YV m ⟨3,a,x,y⟩=some ((sw m a x y).1,v,(sw m a x y).2,()):=by
 rw [ziP]
 simp only [zq,if_true,if_neg (show ¬(3:Int)=1 by omega),if_neg (show ¬(3:Int)=2 by omega)]
 by_cases h1:a<0
 ·rw [if_pos h1]
  have:sw m a x y=(m,false):=by unfold sw;rw [if_neg (by omega)]
  rw [this];exact ⟨_,rfl⟩
 ·rw [if_neg h1]
  by_cases h2:(m.length:Int)≤a
  ·rw [if_pos h2]
   have:sw m a x y=(m,false):=by unfold sw;rw [if_neg (by omega)]
   rw [this];exact ⟨_,rfl⟩
  ·rw [if_neg h2,ut (by omega),ztl (by omega) (by omega),Option.bind_some,zrH,Option.bind_some]
   simp only [zq]
   by_cases h3:ld m a=x
   ·have:sw m a x y=(st m a y,true):=by unfold sw;rw [if_pos ⟨by omega,by omega,h3⟩]
    rw [if_pos h3,this,yL]
    by_cases h4:ld m a=y
    ·rw [if_pos h4]
     have:st m a y=m:=by rw [←h4,zux]
     rw [this]
     simp [h3]
    ·rw [if_neg h4,zqM hm,Option.bind_some,ZI (l:=m) (by omega) (by omega),Option.bind_some]
     unfold st
     rw [if_pos (by omega)]
     simp [h3]
   ·have:sw m a x y=(m,false):=by unfold sw;rw [if_neg (by rintro ⟨_,_,h⟩;exact h3 h)]
    rw [if_neg h3,this]
    simp [h3]
theorem zoS (m:List (BitVec 64)) (a:Int):zb4 m a=some (ld m a,()):=by
 obtain ⟨b,h⟩:=zuy m a 0#64 0#64
 rw [zom,h];rfl
theorem zan {m:List (BitVec 64)} (hm:m.length<4294967296) (a:Int) (x:BitVec 64):Yi m a x=some (st m a x,()):=by
 obtain ⟨v,b,h⟩:=zte hm a x 0#64
 rw [znP,h];rfl
theorem zoB (m:List (BitVec 64)) (a:Int):Zj m a=some (ld m a,()):=by
 obtain ⟨b,h⟩:=zuy m a 0#64 0#64
 rw [zn5,h];rfl
theorem zmX {m:List (BitVec 64)} (hm:m.length<4294967296) (a:Int) (x:BitVec 64):Yb m a x=some (st m a x,()):=by
 obtain ⟨v,b,h⟩:=zte hm a x 0#64
 rw [znX,h];rfl
def yq (h:BitVec 64):Int:=(h&&&4294967295#64).toInt
def yU (v:BitVec 64) (n:Int):BitVec 64:=(v <<< 32)|||(BitVec.ofInt 64 n&&&4294967295#64)
theorem zfJ (h:BitVec 64):Y5 h=some (yq h,()):=zpw h
theorem zfR (v:BitVec 64) (n:Int):WP v n=some (yU v n,()):=zoA v n
def zk (m:List (BitVec 64)) (c:zB):List (BitVec 64)×zB :=
 if c.Out≠0∨(c.Kind≠1∧c.Kind≠2)∨c.PC<0∨3≤c.PC then (m,c)
 else if c.PC=0 then
  (m,if c.Kind=2∧yq (ld m c.Head)=0 then {c with H:=ld m c.Head,Out:=2,PC:=1} else {c with H:=ld m c.Head,PC:=1})
 else if c.PC=1 then
  if c.Kind=2 then (m,{c with Y:=(ld m (wc (c.Next+yq c.H))).toInt,PC:=2})
  else (st m (wc (c.Next+c.X)) (BitVec.ofInt 64 (yq c.H)),{c with PC:=2})
 else
  let r:=sw m c.Head c.H (yU ((c.H >>> 32)+1#64) (if c.Kind=2 then c.Y else c.X))
  (r.1,if r.2 then (if c.Kind=2 then {c with X:=yq c.H,Out:=1,PC:=3} else {c with Out:=1,PC:=3}) else {c with PC:=0})
theorem zfN {m:List (BitVec 64)} (hm:m.length<4294967296) (c:zB):WW m c=some ((zk m c).1,(zk m c).2,()):=by
 have hsee:vl m c=some (m,(if c.Kind=2∧yq (ld m c.Head)=0 then {c with H:=ld m c.Head,Out:=2} else {c with H:=ld m c.Head}),()):=by
  rw [zfG,zoS,Option.bind_some,zfJ,Option.bind_some,zq,zq]
  by_cases h1:c.Kind=2
  ·by_cases h2:yq (ld m c.Head)=0
   ·rw [if_pos h1,if_pos h2,if_pos ⟨h1,h2⟩]
   ·rw [if_pos h1,if_neg h2,if_neg (fun h=>h2 h.2)]
  ·rw [if_neg h1,if_neg (fun h=>h1 h.1)]
 have hlink:Yz m c=some (st m (wc (c.Next+c.X)) (BitVec.ofInt 64 (yq c.H)),()):=by
  rw [zhJ,wM,zfJ,Option.bind_some,zan hm];rfl
 have hbeh:uU m c=some (m,{c with Y:=(ld m (wc (c.Next+yq c.H))).toInt},()):=by
  rw [zdD,wM,zfJ,Option.bind_some,zoS];rfl
 have hswap:wX m c=some ((sw m c.Head c.H (yU ((c.H >>> 32)+1#64) (if c.Kind=2 then c.Y else c.X))).1,
   (if (sw m c.Head c.H (yU ((c.H >>> 32)+1#64) (if c.Kind=2 then c.Y else c.X))).2 then (if c.Kind=2 then {c with X:=yq c.H,Out:=1} else {c with Out:=1}) else {c with PC:= -1}),()):=by
  rw [ze9,zq]
  by_cases h1:c.Kind=2
  ·rw [if_pos h1,zfR,Option.bind_some]
   obtain ⟨v,hv⟩:=zuC hm c.Head c.H (yU ((c.H >>> 32)+1#64) c.Y)
   simp only [if_pos h1]
   rw [hv,Option.bind_some]
   cases hs:(sw m c.Head c.H (yU ((c.H >>> 32)+1#64) c.Y)).2 with
   | true=>simp [hs,h1,zfJ]
   | false=>simp [hs]
  ·rw [if_neg h1,zfR,Option.bind_some]
   obtain ⟨v,hv⟩:=zuC hm c.Head c.H (yU ((c.H >>> 32)+1#64) c.X)
   simp only [if_neg h1]
   rw [hv,Option.bind_some]
   cases hs:(sw m c.Head c.H (yU ((c.H >>> 32)+1#64) c.X)).2 with
   | true=>simp [hs,h1]
   | false=>simp [hs]
 rw [zpe,hsee,hlink,hbeh,hswap]
 simp only [zq,yL,Option.bind_some]
 unfold zk
 by_cases h0:c.Out=0
 ·by_cases hp0:c.PC<0
  ·have:(c.Out≠0∨(c.Kind≠1∧c.Kind≠2)∨c.PC<0∨3≤c.PC):= .inr (.inr (.inl hp0))
   rw [if_pos this]
   simp [h0,hp0]
  ·by_cases hp3:3≤c.PC
   ·have:(c.Out≠0∨(c.Kind≠1∧c.Kind≠2)∨c.PC<0∨3≤c.PC):= .inr (.inr (.inr hp3))
    rw [if_pos this]
    simp [h0,hp3]
   ·by_cases hk:c.Kind=1∨c.Kind=2
    ·have: ¬(c.Out≠0∨(c.Kind≠1∧c.Kind≠2)∨c.PC<0∨3≤c.PC):=by
      rintro (h | h | h | h)
      ·exact h h0
      ·omega
      ·exact hp0 h
      ·exact hp3 h
     rw [if_neg this]
     have hpc:c.PC=0∨c.PC=1∨c.PC=2:=by omega
     have w1:w64 1=1:=yH (by omega) (by omega)
     have w2:w64 2=2:=yH (by omega) (by omega)
     have w3:w64 3=3:=yH (by omega) (by omega)
     have w4:w64 0=0:=yH (by omega) (by omega)
     rcases hk with hk | hk<;>rcases hpc with hpc | hpc | hpc<;>simp [h0,hk,hpc,w1,w2,w3,w4]<;>(try split)<;>simp [hpc,w1,w3,w4]
    ·have:(c.Out≠0∨(c.Kind≠1∧c.Kind≠2)∨c.PC<0∨3≤c.PC):= .inr (.inl (by omega))
     rw [if_pos this]
     have k1: ¬c.Kind=1:=by omega
     have k2: ¬c.Kind=2:=by omega
     simp [h0,k1,k2]
 ·have:(c.Out≠0∨(c.Kind≠1∧c.Kind≠2)∨c.PC<0∨3≤c.PC):= .inl h0
  rw [if_pos this]
  simp [h0]
end
end Go.Pe.G
namespace Go.Pe.G
open Go.Pe
noncomputable section
def WH (d:zh):BitVec 64:=BitVec.ofInt 64 (if d.Cap<1 then 1 else d.Cap)
def W2 (d:zh) (i:BitVec 64):Int:=wc (wc (d.Base+2)+(i%WH d).toInt)
def yP (m:List (BitVec 64)) (d:zh):List (BitVec 64)×zh :=
 if d.Out≠0∨d.PC<0∨4≤d.PC then (m,d)
 else if d.PC=0 then (m,{d with B:=ld m (wc (d.Base+1)),PC:=1})
 else if d.PC=1 then (m,if WH d≤d.B-ld m d.Base then {d with T:=ld m d.Base,Out:=3,PC:=2} else {d with T:=ld m d.Base,PC:=2})
 else if d.PC=2 then (st m (W2 d d.B) (BitVec.ofInt 64 d.X),{d with PC:=3})
 else (st m (wc (d.Base+1)) (d.B+1#64),{d with Out:=1,PC:=4})
theorem zxg:w64 0=0∧w64 1=1∧w64 2=2∧w64 3=3∧w64 4=4:=by
 refine ⟨?_,?_,?_,?_,?_⟩<;>exact yH (by omega) (by omega)
theorem zvC {d:zh} (h:d.Cap<1000):WH d≠0#64:=by
 unfold WH
 intro e
 have:=congrArg BitVec.toNat e
 rw [BitVec.toNat_ofInt] at this
 split at this<;>simp at this<;>omega
theorem zok (d:zh):YE d=some (WH d,()):=by
 rw [zht];unfold WH;rw [zq]
theorem zt7 {d:zh} (h:d.Cap<1000) (i:BitVec 64):uJ i d=some (W2 d i,()):=by
 rw [zg1,wM,zok,Option.bind_some,zq,if_neg (zvC h)];rfl
theorem zpf {m:List (BitVec 64)} (hm:m.length<4294967296) {d:zh} (hk:d.Kind=1) (hc:d.Cap<1000):zgw m d=some ((yP m d).1,(yP m d).2,()):=by
 obtain ⟨w0,w1,w2,w3,w4⟩:=zxg
 have h0:v4 m d=some (m,{d with B:=ld m (wc (d.Base+1))},()):=by
  rw [zbH,Uj,wM,Option.bind_some,zoB];rfl
 have h1:Xw m d=some (m,(if WH d≤d.B-ld m d.Base then {d with T:=ld m d.Base,Out:=3} else {d with T:=ld m d.Base}),()):=by
  rw [ze5,ziM,Option.bind_some,zoB,Option.bind_some,zok,Option.bind_some,zq]
  have e:WH {d with T:=ld m d.Base}=WH d:=rfl
  simp only [e]
  by_cases h:WH d≤d.B-ld m d.Base
  ·rw [if_pos h,if_pos h,Uv]
   simp [hk]
  ·rw [if_neg h,if_neg h]
 have h2:V5 m d=some (st m (W2 d d.B) (BitVec.ofInt 64 d.X),()):=by
  rw [ziZ,zt7 hc,Option.bind_some,zmX hm];rfl
 have h3:Yf m d=some (st m (wc (d.Base+1)) (d.B+1#64),{d with Out:=1},()):=by
  rw [zcK,Uv]
  simp only [decide_true,Bool.not_true,cond_false,Option.bind_some,Uj,wM]
  rw [zmX hm];rfl
 rw [zoJ,h0,h1,h2,h3,zmR]
 simp only [hk,decide_true,cond_true,Option.bind_some,yL,zq]
 have key: ∀(x:Option (List (BitVec 64)×zh×Unit)) (v:List (BitVec 64)×zh×Unit) (y:Option (List (BitVec 64)×zh×Unit)),x=some v→Option.or x y=some v:=by
  rintro _ v y rfl;rfl
 apply key
 unfold yP
 by_cases g0:d.Out=0
 ·by_cases g1:d.PC<0
  ·simp [g0,g1]
  ·by_cases g2:4≤d.PC
   ·simp [g0,g2]
   ·have hpc:d.PC=0∨d.PC=1∨d.PC=2∨d.PC=3:=by omega
    rcases hpc with h | h | h | h<;>simp [g0,h,hk,w1,w2,w3,w4]<;>(try split)<;>simp [h,hk,w2]
 ·simp [g0]
def z7 (p:zb):Int:=wc (p.Workers*wc (p.Cap+2))
def zD (p:zb):Int:=wc (z7 p+1)
def zN (p:zb) (w:Int):Int:=wc (wc (w-1)*wc (p.Cap+2))
theorem zfw (p:zb):WM p=some (z7 p,()):=by rw [zn3,wM];rfl
theorem zdL (p:zb):XJ p=some (zD p,()):=by rw [znq,wM,zfw];rfl
theorem zfT (p:zb):Xj p=some (zD p,()):=by rw [zoN,zdL];rfl
theorem zmZ (p:zb) (w:Int):zaS p w=some (zN p w,()):=by rw [znH,wM];rfl
def zgW (p:zb) (g:zC):zC:={g with PC:=5,C:=⟨2,0,zD p,zD p,0#64,0,0,0⟩}
theorem zj9 (a:zF):vF a=some (⟨zgW a.s.P a.Grey,a.s⟩,()):=by
 rw [zgd,zdL,Option.bind_some,zfT,Option.bind_some,zba];rfl
def zh1 (s:za) (g:zC):za×zC :=
 let t:=uA s.T g.Obj
 ({s with T:=t.1},
  if t.2=false then {g with PC:=2}
  else if g.Mode=1 then {g with PC:=3,D:=⟨1,0,zN s.P g.Who,s.P.Cap,0#64,0#64,g.Obj,0⟩}
  else if g.Mode=2 then {g with PC:=4}
  else zgW s.P g)
def zij (s:za) (g:zC):za×zC :=
 let r:=yP s.M g.D
 ({s with M:=r.1},if r.2.Out=1 then {g with D:=r.2,Out:=1} else if r.2.Out=3 then zgW s.P {g with D:=r.2} else {g with D:=r.2})
def zhV (s:za) (g:zC):za×zC :=
 let r:=zk s.M g.C
 ({s with M:=r.1},if r.2.Out=1 then {g with PC:=6,C:=r.2,Bin:=r.2.X} else if r.2.Out=2 then zgW s.P {g with C:=r.2} else {g with C:=r.2})
def zoT (s:za) (g:zC):za×zC :=
 ({s with Bins:=s.Bins.set g.Bin.toNat [g.Obj]},{g with PC:=7,C:=⟨1,0,z7 s.P,zD s.P,0#64,g.Bin,0,0⟩})
def za6 (s:za) (g:zC):za×zC :=
 let r:=zk s.M g.C
 ({s with M:=r.1},if r.2.Out=1 then {g with C:=r.2,Out:=1} else {g with C:=r.2})
def zu (s:za) (g:zC):za×zC :=
 if g.Out≠0∨g.Mode<1∨3<g.Mode∨g.PC<0∨8≤g.PC then (s,g)
 else if g.PC=7 then za6 s g
 else if g.PC=6 then zoT s g
 else if g.PC=5 then zhV s g
 else if g.PC=4 then ({s with Flag:=true},zgW s.P g)
 else if g.PC=3 then zij s g
 else if g.PC=2 then ({s with Work:=wc (s.Work-1)},{g with Out:=1})
 else if g.PC=1 then zh1 s g
 else ({s with Work:=wc (s.Work+1)},{g with PC:=1})
structure GOk (s:za) (g:zC):Prop where
 mem:s.M.length<4294967296
 bins:s.Bins.length<4294967296
 bin:g.PC=6→0≤g.Bin∧g.Bin<s.Bins.length
 deq:g.PC=3→g.D.Kind=1∧g.D.Cap<1000
theorem zwa {s:za} {g:zC} (ok:GOk s g):ziU s g=some ((zu s g).1,(zu s g).2,()):=by
 rw [zpQ]
 simp only [zq,yL]
 unfold zu
 by_cases h0:g.Out=0
 rotate_left
 ·rw [if_neg h0,if_pos (.inl h0)]
 rw [if_pos h0]
 by_cases h1:g.Mode<1
 ·rw [if_pos h1,if_pos (.inr (.inl h1))]
 rw [if_neg h1]
 by_cases h2:3<g.Mode
 ·rw [if_pos h2,if_pos (.inr (.inr (.inl h2)))]
 rw [if_neg h2]
 by_cases h3:g.PC<0
 ·rw [if_pos h3,if_pos (.inr (.inr (.inr (.inl h3))))]
 rw [if_neg h3]
 by_cases h4:8≤g.PC
 ·rw [if_pos h4,if_pos (.inr (.inr (.inr (.inr h4))))]
 rw [if_neg h4,if_neg (show ¬(g.Out≠0∨g.Mode<1∨3<g.Mode∨g.PC<0∨8≤g.PC) by omega)]
 by_cases p7:g.PC=7
 ·rw [if_pos p7,if_pos p7,zdE]
  simp only [zfN ok.mem,Option.bind_some,zq]
  by_cases e:(zk s.M g.C).2.Out=1<;>simp [za6,e]
 rw [if_neg p7,if_neg p7]
 by_cases p6:g.PC=6
 ·rw [if_pos p6,if_pos p6,zfW]
  obtain ⟨b1,b2⟩:=ok.bin p6
  simp only [zko ok.bins,Option.bind_some,ZI (l:=s.Bins) b1 b2,zfw,zfT,zba]
  rfl
 rw [if_neg p6,if_neg p6]
 by_cases p5:g.PC=5
 ·rw [if_pos p5,if_pos p5,zfA]
  simp only [zfN ok.mem,Option.bind_some,zq,zj9]
  by_cases e:(zk s.M g.C).2.Out=1
  ·simp [zhV,e]
  ·by_cases e2:(zk s.M g.C).2.Out=2<;>simp [zhV,e,e2]
 rw [if_neg p5,if_neg p5]
 by_cases p4:g.PC=4
 ·rw [if_pos p4,if_pos p4,zfL,zj9];rfl
 rw [if_neg p4,if_neg p4]
 by_cases p3:g.PC=3
 ·rw [if_pos p3,if_pos p3,zfC]
  obtain ⟨b1,b2⟩:=ok.deq p3
  simp only [zpf ok.mem b1 b2,Option.bind_some,zq,zj9]
  by_cases e:(yP s.M g.D).2.Out=1
  ·simp [zij,e]
  ·by_cases e2:(yP s.M g.D).2.Out=3<;>simp [zij,e,e2]
 rw [if_neg p3,if_neg p3]
 by_cases p2:g.PC=2
 ·rw [if_pos p2,if_pos p2,zfp,wM];rfl
 rw [if_neg p2,if_neg p2]
 by_cases p1:g.PC=1
 ·rw [if_pos p1,if_pos p1,zfy]
  simp only [zpu,Option.bind_some,zq,zj9,zmZ,zg9]
  unfold zh1
  cases hs:(uA s.T g.Obj).2 with
  | false=>simp [hs]
  | true =>
   by_cases m1:g.Mode=1
   ·simp [hs,m1]
   ·by_cases m2:g.Mode=2<;>simp [hs,m1,m2]
 rw [if_neg p1,if_neg p1,if_pos (show g.PC=0 by omega),zcV,wM];rfl
end
end Go.Pe.G
namespace Go.Pe.G
open Go.Pe
noncomputable section
theorem vD {b k:Int} (h:0≤b) (hk:0<k):0≤b.tmod k∧b.tmod k<k:=by
 rw [Int.tmod_eq_emod_of_nonneg h];exact ⟨Int.emod_nonneg _ (by omega),Int.emod_lt_of_pos _ hk⟩
def zcD (o:zi) (regs slots:Int):Prop:=(0≤o.R∧o.R<regs) ∧
 ((o.Kind=1∨o.Kind=2)∧(0≤o.A∧o.A<regs)∧(0≤o.S∧o.S<slots)∨o.Kind=4∧(0≤o.A∧o.A<regs)∧o.S=0∨(o.Kind=3∨o.Kind=5)∧o.A=0∧o.S=0)
structure zE (p:zb):Prop where
 wk:1≤p.Workers∧p.Workers≤3
 mt:0≤p.Mutators∧p.Mutators≤2
 cap:1≤p.Cap∧p.Cap≤3
 buf:1≤p.Buf∧p.Buf≤2
 bin:1≤p.Bin∧p.Bin≤3
 price:0≤p.Price∧p.Price≤3
 limit:0≤p.Limit∧p.Limit≤3
 slots:1≤p.H.Slots∧p.H.Slots≤2
 n:1≤(p.H.Objs.length:Int)∧(p.H.Objs.length:Int)≤6
 objs: ∀o∈p.H.Objs,(o.length:Int)=p.H.Slots∧∀v∈o,0≤v∧v≤(p.H.Objs.length:Int)
 most:(p.H.Objs.length:Int)≤p.Most∧p.Most≤(p.H.Objs.length:Int)+3
 roots: ∃r,0≤r∧r≤(p.H.Objs.length:Int)∧p.Roots=bit r
 regs:(p.Regs.length:Int)=p.Mutators
 progs:(p.Progs.length:Int)=p.Mutators
 reg: ∀r∈p.Regs,(1≤(r.length:Int)∧(r.length:Int)≤3)∧∀v∈r,0≤v∧v≤(p.H.Objs.length:Int)
 prog: ∀(k:Nat) r ops,p.Regs[k]? =some r→p.Progs[k]? =some ops→(ops.length:Int)≤7∧∀o∈ops,zcD o (r.length:Int) p.H.Slots
 picks:p.Picks=[]
end
end Go.Pe.G
namespace Go.Pe.G
open Go.Pe
noncomputable section
namespace B16
def XE (m:zG):Prop:=0≤m.At∧m.At≤m.L.length∧m.L.length≤90
theorem v6 {m:zG} (h:XE m): ∃b m',zA m=some (b,m',())∧(0≤b∧b<256)∧XE m':=by
 obtain ⟨h1,h2,h3⟩:=h
 rw [zcN,zq]
 by_cases h:(m.L.length:Int)≤m.At
 ·rw [if_pos h];exact ⟨_,_,rfl,by omega,h1,h2,h3⟩
 ·rw [if_neg h,yH (a:=m.At+1) (by omega) (by omega),yH (by omega) (by omega),ut (by omega),List.getElem?_eq_getElem (by omega),Option.bind_some]
  exact ⟨_,_,rfl,by have:=(m.L[(m.At+1-1).toNat]'(by omega)).isLt;omega,show 0≤m.At+1 by omega,show m.At+1≤m.L.length by omega,h3⟩
theorem zzt {m:zG} (h:XE m) {regs slots:Int} (hr:1≤regs) (hs:1≤slots): ∃o m',Xi regs slots m=some (o,m',())∧zcD o regs slots∧XE m':=by
 obtain ⟨b1,m1,e1,r1,k1⟩:=v6 h
 obtain ⟨b2,m2,e2,r2,k2⟩:=v6 k1
 obtain ⟨b3,m3,e3,r3,k3⟩:=v6 k2
 obtain ⟨b4,m4,e4,r4,k4⟩:=v6 k3
 have t1:=vD r1.1 (show (0:Int)<8 by omega)
 have t2:=vD r2.1 (show (0:Int)<regs by omega)
 have t3:=vD r3.1 (show (0:Int)<regs by omega)
 have t4:=vD r4.1 (show (0:Int)<slots by omega)
 have t5:=vD r3.1 (show (0:Int)<slots by omega)
 have hn: ¬regs=0:=by omega
 have hn2: ¬slots=0:=by omega
 rw [zd8,e1,Option.bind_some,ZI t1.1 (by simpa using t1.2),Option.bind_some]
 have hx:b1.tmod 8=0∨b1.tmod 8=1∨b1.tmod 8=2∨b1.tmod 8=3∨b1.tmod 8=4∨b1.tmod 8=5∨b1.tmod 8=6∨b1.tmod 8=7:=by omega
 rcases hx with hx | hx | hx | hx | hx | hx | hx | hx<;>simp [hx,e2,e3,e4,hn,hn2]<;>refine ⟨_,_,⟨rfl,rfl⟩,?_,by assumption⟩<;>(unfold zcD;dsimp only;omega)
theorem zxq {s1:Int} {s2:Int} {s4:Int} {s5:Int} {s6:Int} {s7:Int} {s8:Int} {s9:Int} {s10:Int} {s11:Int} {s12:Int} {s13:BitVec 64} {s15:Int} {s16:Int} {s17:Int} {s18:Int} {s19:Int} {s20:Int} {s21:Int} {s22:Int} {s23:Int} {s24:BitVec 64} {s26:List (List Int)} {s27:List (List Int)} {s28:List (List zi)} {s29:List zl} {s30:List (List Int)} {s31:List (List Int)} {s32:List (List zi)} {s33:List zl} (hn:1≤s1∧s1≤6) (hs:1≤s23∧s23≤2) {mk:zG} (hm:XE mk) :
  ∃mk' l,yA Ya (s1,s2,0,s4,s5,s6,s7,s8,s9,s10,s11,s12,s13,mk,s15,s16,s17,s18,s19,s20,s21,s22,s23,s24,[],s26,s27,s28,s29,s30,s31,s32,s33,())=some (.brk (s1,s2,s4,s5,s6,s7,s8,s9,s10,s11,s12,s13,mk',s15,s16,s17,s18,s19,s20,s21,s22,s23,s24,l,s26,s27,s28,s29,s30,s31,s32,s33,()))∧XE mk'∧(l.length:Int)=s23∧∀v∈l,0≤v∧v≤s1:=by
 refine (Zk (f:=Ya)
  (fun a=>∃i mk l,a=(s1,s2,i,s4,s5,s6,s7,s8,s9,s10,s11,s12,s13,mk,s15,s16,s17,s18,s19,s20,s21,s22,s23,s24,l,s26,s27,s28,s29,s30,s31,s32,s33,())∧XE mk∧(0≤i∧i≤s23∧(l.length:Int)=i)∧∀v∈l,0≤v∧v≤s1)
  (fun a=>(s23-a.2.2.1).toNat)
  (fun o=>match o with | .brk b=>∃mk l,b=(s1,s2,s4,s5,s6,s7,s8,s9,s10,s11,s12,s13,mk,s15,s16,s17,s18,s19,s20,s21,s22,s23,s24,l,s26,s27,s28,s29,s30,s31,s32,s33,())∧XE mk∧(l.length:Int)=s23∧∀v∈l,0≤v∧v≤s1 | _=>False) ?_
  (s1,s2,0,s4,s5,s6,s7,s8,s9,s10,s11,s12,s13,mk,s15,s16,s17,s18,s19,s20,s21,s22,s23,s24,[],s26,s27,s28,s29,s30,s31,s32,s33,()) ⟨0,mk,[],rfl,hm,by simp;omega,by simp⟩ (w6 (by simp;omega))).elim fun o h=> ?_
 rotate_left
 ·obtain ⟨ho,hq⟩:=h
  cases o with
  | again a=>exact hq.elim
  | ret a=>exact hq.elim
  | brk b =>
   obtain ⟨mk',l,rfl,h1,h2,h3⟩:=hq
   exact ⟨mk',l,ho,h1,h2,h3⟩
 ·rintro _ ⟨i,mk,l,rfl,h1,h2,h3⟩
  rw [zg4,zq]
  by_cases hi:i<s23
  ·rw [if_pos hi]
   obtain ⟨b,mk',e,r,k⟩:=v6 h1
   have w1:w64 (s1+1)=s1+1:=yH (by omega) (by omega)
   have t:=vD r.1 (show 0<s1+1 by omega)
   rw [e,Option.bind_some,w1,zq,if_neg (by omega),wD (by simp;omega),Option.bind_some,yH (a:=i+1) (by omega) (by omega)]
   refine ⟨_,rfl,⟨i+1,mk',l++[b.tmod (s1+1)],rfl,k,by simp;omega,fun v hv=> ?_⟩,?_⟩
   ·rcases List.mem_append.1 hv with hv | hv
    ·exact h3 v hv
    ·simp at hv;omega
   ·show (s23-(i+1)).toNat<(s23-i).toNat
    omega
  ·rw [if_neg hi]
   exact ⟨_,rfl,mk,l,rfl,h1,by omega,h3⟩
theorem zxY {s1:Int} {s3:Int} {s4:Int} {s5:Int} {s6:Int} {s7:Int} {s8:Int} {s9:Int} {s10:Int} {s11:Int} {s12:BitVec 64} {s14:Int} {s15:Int} {s16:Int} {s17:Int} {s18:Int} {s19:Int} {s20:Int} {s21:Int} {s22:Int} {s23:BitVec 64} {s24:List (List Int)} {s25:List (List Int)} {s26:List (List zi)} {s27:List zl} {s29:List (List Int)} {s30:List (List zi)} {s31:List zl} (hn:1≤s1∧s1≤6) (hs:1≤s22∧s22≤2) {mk:zG} (hm:XE mk) :
  ∃mk' l,yA YD (s1,0,s3,s4,s5,s6,s7,s8,s9,s10,s11,s12,mk,s14,s15,s16,s17,s18,s19,s20,s21,s22,s23,s24,s25,s26,s27,[],s29,s30,s31,())=some (.brk (s1,s3,s4,s5,s6,s7,s8,s9,s10,s11,s12,mk',s14,s15,s16,s17,s18,s19,s20,s21,s22,s23,s24,s25,s26,s27,l,s29,s30,s31,()))∧XE mk'∧(l.length:Int)=s1∧∀o∈l,(o.length:Int)=s22∧∀v∈o,0≤v∧v≤s1:=by
 refine (Zk (f:=YD)
  (fun a=>∃i mk l,a=(s1,i,s3,s4,s5,s6,s7,s8,s9,s10,s11,s12,mk,s14,s15,s16,s17,s18,s19,s20,s21,s22,s23,s24,s25,s26,s27,l,s29,s30,s31,())∧XE mk∧(0≤i∧i≤s1∧(l.length:Int)=i)∧∀o∈l,(o.length:Int)=s22∧∀v∈o,0≤v∧v≤s1)
  (fun a=>(s1-a.2.1).toNat)
  (fun o=>match o with | .brk b=>∃mk l,b=(s1,s3,s4,s5,s6,s7,s8,s9,s10,s11,s12,mk,s14,s15,s16,s17,s18,s19,s20,s21,s22,s23,s24,s25,s26,s27,l,s29,s30,s31,())∧XE mk∧(l.length:Int)=s1∧∀o∈l,(o.length:Int)=s22∧∀v∈o,0≤v∧v≤s1 | _=>False) ?_
  (s1,0,s3,s4,s5,s6,s7,s8,s9,s10,s11,s12,mk,s14,s15,s16,s17,s18,s19,s20,s21,s22,s23,s24,s25,s26,s27,[],s29,s30,s31,()) ⟨0,mk,[],rfl,hm,by simp;omega,by simp⟩ (w6 (by simp;omega))).elim fun o h=> ?_
 rotate_left
 ·obtain ⟨ho,hq⟩:=h
  cases o with
  | again a=>exact hq.elim
  | ret a=>exact hq.elim
  | brk b =>
   obtain ⟨mk',l,rfl,h1,h2,h3⟩:=hq
   exact ⟨mk',l,ho,h1,h2,h3⟩
 ·rintro _ ⟨i,mk,l,rfl,h1,h2,h3⟩
  rw [zhq,zq]
  by_cases hi:i<s1
  ·rw [if_pos hi]
   obtain ⟨mk',o,e,g1,g2,g3⟩:=zxq hn hs h1
   rw [e]
   simp only [Option.bind_some]
   rw [wD (by simp;omega),Option.bind_some,yH (a:=i+1) (by omega) (by omega)]
   refine ⟨_,rfl,⟨i+1,mk',l++[o],rfl,g1,by simp;omega,fun v hv=> ?_⟩,?_⟩
   ·rcases List.mem_append.1 hv with hv | hv
    ·exact h3 v hv
    ·simp at hv;subst hv;exact ⟨g2,g3⟩
   ·show (s1-(i+1)).toNat<(s1-i).toNat
    omega
  ·rw [if_neg hi]
   exact ⟨_,rfl,mk,l,rfl,h1,by omega,h3⟩
theorem zxi {s1:Int} {s2:Int} {s4:Int} {s5:Int} {s6:Int} {s7:Int} {s8:Int} {s9:Int} {s10:Int} {s11:Int} {s12:Int} {s13:BitVec 64} {s15:Int} {s16:Int} {s17:Int} {s18:Int} {s19:Int} {s20:Int} {s21:Int} {s22:Int} {s23:Int} {s24:BitVec 64} {s26:List (List Int)} {s27:List (List Int)} {s28:List (List zi)} {s29:List zl} {s30:List (List Int)} {s31:List (List Int)} {s32:List (List zi)} {s33:List zl} (hn:1≤s1∧s1≤6) {mk:zG} (hm:XE mk) :
  ∃mk' l,yA Z3 (s1,s2,0,s4,s5,s6,s7,s8,s9,s10,s11,s12,s13,mk,s15,s16,s17,s18,s19,s20,s21,s22,s23,s24,[],s26,s27,s28,s29,s30,s31,s32,s33,())=some (.brk (s1,s2,s4,s5,s6,s7,s8,s9,s10,s11,s12,s13,mk',s15,s16,s17,s18,s19,s20,s21,s22,s23,s24,l,s26,s27,s28,s29,s30,s31,s32,s33,()))∧XE mk'∧(1≤(l.length:Int)∧(l.length:Int)≤3)∧∀v∈l,0≤v∧v≤s1:=by
 refine (Zk (f:=Z3)
  (fun a=>∃i mk l,a=(s1,s2,i,s4,s5,s6,s7,s8,s9,s10,s11,s12,s13,mk,s15,s16,s17,s18,s19,s20,s21,s22,s23,s24,l,s26,s27,s28,s29,s30,s31,s32,s33,())∧XE mk∧(0≤i∧i≤3∧(l.length:Int)=i)∧∀v∈l,0≤v∧v≤s1)
  (fun a=>(3-a.2.2.1).toNat)
  (fun o=>match o with | .brk b=>∃mk l,b=(s1,s2,s4,s5,s6,s7,s8,s9,s10,s11,s12,s13,mk,s15,s16,s17,s18,s19,s20,s21,s22,s23,s24,l,s26,s27,s28,s29,s30,s31,s32,s33,())∧XE mk∧(1≤(l.length:Int)∧(l.length:Int)≤3)∧∀v∈l,0≤v∧v≤s1 | _=>False) ?_
  (s1,s2,0,s4,s5,s6,s7,s8,s9,s10,s11,s12,s13,mk,s15,s16,s17,s18,s19,s20,s21,s22,s23,s24,[],s26,s27,s28,s29,s30,s31,s32,s33,()) ⟨0,mk,[],rfl,hm,by simp,by simp⟩ (w6 (by simp))).elim fun o h=> ?_
 rotate_left
 ·obtain ⟨ho,hq⟩:=h
  cases o with
  | again a=>exact hq.elim
  | ret a=>exact hq.elim
  | brk b =>
   obtain ⟨mk',l,rfl,h1,h2,h3⟩:=hq
   exact ⟨mk',l,ho,h1,h2,h3⟩
 ·rintro _ ⟨i,mk,l,rfl,h1,h2,h3⟩
  obtain ⟨b0,mk0,e0,r0,k0⟩:=v6 h1
  have t0:=vD r0.1 (show (0:Int)<3 by omega)
  rw [zgV,e0,Option.bind_some,zq,yH (a:=1+b0.tmod 3) (by omega) (by omega)]
  by_cases hi:i<1+b0.tmod 3
  ·rw [if_pos hi]
   obtain ⟨b,mk',e,r,k⟩:=v6 k0
   have w1:w64 (s1+1)=s1+1:=yH (by omega) (by omega)
   have t:=vD r.1 (show 0<s1+1 by omega)
   rw [e,Option.bind_some,w1,zq,if_neg (by omega),wD (by simp;omega),Option.bind_some,yH (a:=i+1) (by omega) (by omega)]
   refine ⟨_,rfl,⟨i+1,mk',l++[b.tmod (s1+1)],rfl,k,by simp;omega,fun v hv=> ?_⟩,?_⟩
   ·rcases List.mem_append.1 hv with hv | hv
    ·exact h3 v hv
    ·simp at hv;omega
   ·show (3-(i+1)).toNat<(3-i).toNat
    omega
  ·rw [if_neg hi]
   exact ⟨_,rfl,mk0,l,rfl,k0,by omega,h3⟩
theorem zxJ {s1:Int} {s2:Int} {s4:Int} {s5:Int} {s6:Int} {s7:Int} {s8:Int} {s9:Int} {s10:Int} {s11:Int} {s12:Int} {s13:BitVec 64} {s15:Int} {s16:Int} {s17:Int} {s18:Int} {s19:Int} {s20:Int} {s21:Int} {s22:Int} {s23:Int} {s24:BitVec 64} {s25:List Int} {s27:List (List Int)} {s28:List (List Int)} {s29:List (List zi)} {s30:List zl} {s31:List (List Int)} {s32:List (List Int)} {s33:List (List zi)} {s34:List zl} (hr:1≤(s25.length:Int)) (hs:1≤s23∧s23≤2) {k0:Int} (hk:0≤k0∧k0<8) {mk:zG} (hm:XE mk) :
  ∃mk' l,yA uP (s1,s2,k0,s4,s5,s6,s7,s8,s9,s10,s11,s12,s13,mk,s15,s16,s17,s18,s19,s20,s21,s22,s23,s24,s25,[],s27,s28,s29,s30,s31,s32,s33,s34,())=some (.brk (s1,s2,s4,s5,s6,s7,s8,s9,s10,s11,s12,s13,mk',s15,s16,s17,s18,s19,s20,s21,s22,s23,s24,s25,l,s27,s28,s29,s30,s31,s32,s33,s34,()))∧XE mk'∧(l.length:Int)≤7∧∀o∈l,zcD o (s25.length:Int) s23:=by
 refine (Zk (f:=uP)
  (fun a=>∃i mk l,a=(s1,s2,i,s4,s5,s6,s7,s8,s9,s10,s11,s12,s13,mk,s15,s16,s17,s18,s19,s20,s21,s22,s23,s24,s25,l,s27,s28,s29,s30,s31,s32,s33,s34,())∧XE mk∧(0≤i∧(l.length:Int)+i≤7)∧∀o∈l,zcD o (s25.length:Int) s23)
  (fun a=>(a.2.2.1).toNat)
  (fun o=>match o with | .brk b=>∃mk l,b=(s1,s2,s4,s5,s6,s7,s8,s9,s10,s11,s12,s13,mk,s15,s16,s17,s18,s19,s20,s21,s22,s23,s24,s25,l,s27,s28,s29,s30,s31,s32,s33,s34,())∧XE mk∧(l.length:Int)≤7∧∀o∈l,zcD o (s25.length:Int) s23 | _=>False) ?_
  (s1,s2,k0,s4,s5,s6,s7,s8,s9,s10,s11,s12,s13,mk,s15,s16,s17,s18,s19,s20,s21,s22,s23,s24,s25,[],s27,s28,s29,s30,s31,s32,s33,s34,()) ⟨k0,mk,[],rfl,hm,by simp;omega,by simp⟩ (w6 (by simp;omega))).elim fun o h=> ?_
 rotate_left
 ·obtain ⟨ho,hq⟩:=h
  cases o with
  | again a=>exact hq.elim
  | ret a=>exact hq.elim
  | brk b =>
   obtain ⟨mk',l,rfl,h1,h2,h3⟩:=hq
   exact ⟨mk',l,ho,h1,h2,h3⟩
 ·rintro _ ⟨i,mk,l,rfl,h1,h2,h3⟩
  rw [zf9,zq]
  by_cases hi:0<i
  ·rw [if_pos hi]
   obtain ⟨o,mk',e,r,k⟩:=zzt h1 hr hs.1
   rw [e,Option.bind_some,wD (by simp;omega),Option.bind_some,yH (a:=i-1) (by omega) (by omega)]
   refine ⟨_,rfl,⟨i-1,mk',l++[o],rfl,k,by simp;omega,fun v hv=> ?_⟩,?_⟩
   ·rcases List.mem_append.1 hv with hv | hv
    ·exact h3 v hv
    ·simp at hv;subst hv;exact r
   ·show (i-1).toNat<i.toNat
    omega
  ·rw [if_neg hi]
   exact ⟨_,rfl,mk,l,rfl,h1,by omega,h3⟩
theorem zxl {s1:Int} {s3:Int} {s4:Int} {s5:Int} {s6:Int} {s7:Int} {s8:Int} {s9:Int} {s10:Int} {s11:Int} {s12:BitVec 64} {s14:Int} {s15:Int} {s16:Int} {s17:Int} {s18:Int} {s19:Int} {s20:Int} {s21:Int} {s22:Int} {s23:BitVec 64} {s24:List (List Int)} {s25:List (List Int)} {s26:List (List zi)} {s27:List zl} {s28:List (List Int)} {s31:List zl} (hn:1≤s1∧s1≤6) (hm0:0≤s15∧s15≤2) (hs:1≤s22∧s22≤2) {mk:zG} (hm:XE mk) :
  ∃regs progs,yA Z8 (s1,0,s3,s4,s5,s6,s7,s8,s9,s10,s11,s12,mk,s14,s15,s16,s17,s18,s19,s20,s21,s22,s23,s24,s25,s26,s27,s28,[],[],s31,())=some (.brk (s3,s4,s5,s6,s7,s8,s9,s10,s11,s12,s14,s15,s16,s17,s18,s19,s20,s21,s22,s23,s24,s25,s26,s27,s28,regs,progs,s31,()))∧(regs.length:Int)=s15∧(regs.length=progs.length)∧(∀r∈regs,(1≤(r.length:Int)∧(r.length:Int)≤3)∧∀v∈r,0≤v∧v≤s1)∧∀(k:Nat) r ops,regs[k]? =some r→progs[k]? =some ops→(ops.length:Int)≤7∧∀o∈ops,zcD o (r.length:Int) s22:=by
 refine (Zk (f:=Z8)
  (fun a=>∃i mk regs progs,a=(s1,i,s3,s4,s5,s6,s7,s8,s9,s10,s11,s12,mk,s14,s15,s16,s17,s18,s19,s20,s21,s22,s23,s24,s25,s26,s27,s28,regs,progs,s31,())∧XE mk∧(0≤i∧i≤s15∧(regs.length:Int)=i)∧(regs.length=progs.length)∧(∀r∈regs,(1≤(r.length:Int)∧(r.length:Int)≤3)∧∀v∈r,0≤v∧v≤s1)∧∀(k:Nat) r ops,regs[k]? =some r→progs[k]? =some ops→(ops.length:Int)≤7∧∀o∈ops,zcD o (r.length:Int) s22)
  (fun a=>(s15-a.2.1).toNat)
  (fun o=>match o with | .brk b=>∃regs progs,b=(s3,s4,s5,s6,s7,s8,s9,s10,s11,s12,s14,s15,s16,s17,s18,s19,s20,s21,s22,s23,s24,s25,s26,s27,s28,regs,progs,s31,())∧(regs.length:Int)=s15∧(regs.length=progs.length)∧(∀r∈regs,(1≤(r.length:Int)∧(r.length:Int)≤3)∧∀v∈r,0≤v∧v≤s1)∧∀(k:Nat) r ops,regs[k]? =some r→progs[k]? =some ops→(ops.length:Int)≤7∧∀o∈ops,zcD o (r.length:Int) s22 | _=>False) ?_
  (s1,0,s3,s4,s5,s6,s7,s8,s9,s10,s11,s12,mk,s14,s15,s16,s17,s18,s19,s20,s21,s22,s23,s24,s25,s26,s27,s28,[],[],s31,()) ⟨0,mk,[],[],rfl,hm,by simp;omega,rfl,by simp,by simp⟩ (w6 (by simp;omega))).elim fun o h=> ?_
 rotate_left
 ·obtain ⟨ho,hq⟩:=h
  cases o with
  | again a=>exact hq.elim
  | ret a=>exact hq.elim
  | brk b =>
   obtain ⟨regs,progs,rfl,h⟩:=hq
   exact ⟨regs,progs,ho,h⟩
 ·rintro _ ⟨i,mk,regs,progs,rfl,h1,h2,h3,h4,h5⟩
  rw [zgc,zq]
  by_cases hi:i<s15
  ·rw [if_pos hi]
   obtain ⟨mk1,r,e,g1,g2,g3⟩:=zxi hn h1
   rw [e]
   simp only [Option.bind_some]
   rw [zq,if_neg (by omega)]
   obtain ⟨b,mk2,e2,r2,k2⟩:=v6 g1
   rw [e2,Option.bind_some]
   obtain ⟨mk3,ops,e3,f1,f2,f3⟩:=zxJ (s25:=r) g2.1 hs (vD r2.1 (show (0:Int)<8 by omega)) k2
   rw [e3]
   simp only [Option.bind_some]
   rw [wD (by simp;omega),Option.bind_some,wD (by simp;omega),Option.bind_some,yH (a:=i+1) (by omega) (by omega)]
   refine ⟨_,rfl,⟨i+1,mk3,regs++[r],progs++[ops],rfl,f1,by simp;omega,by simp [h3],fun v hv=> ?_,fun k r' ops' hk1 hk2=> ?_⟩,?_⟩
   ·rcases List.mem_append.1 hv with hv | hv
    ·exact h4 v hv
    ·simp at hv;subst hv;exact ⟨g2,g3⟩
   ·rcases Nat.lt_or_ge k regs.length with hlt | hge
    ·rw [List.getElem?_append_left hlt] at hk1
     rw [List.getElem?_append_left (by omega)] at hk2
     exact h5 k r' ops' hk1 hk2
    ·rw [List.getElem?_append_right hge] at hk1
     rw [List.getElem?_append_right (by omega),←h3] at hk2
     have hk0:k-regs.length=0:=by
      have:=(List.getElem?_eq_some_iff.1 hk1).1
      simpa using this
     rw [hk0] at hk1 hk2
     simp at hk1 hk2
     subst hk1;subst hk2
     exact ⟨f2,f3⟩
   ·show (s15-(i+1)).toNat<(s15-i).toNat
    omega
  ·rw [if_neg hi]
   exact ⟨_,rfl,regs,progs,rfl,by omega,h3,h4,h5⟩
theorem zx6 (l:List (BitVec 8)): ∃p,zai l=some (p,())∧zE p:=by
 rw [zkp,zq]
 obtain ⟨m,em,hl⟩: ∃m,cut l 0 (if 90<(l.length:Int) then 90 else (l.length:Int))=some m∧m.length≤90:=by
  unfold cut
  by_cases h:90<(l.length:Int)
  ·have h2:(90:Int)≤l.length:=by omega
   rw [if_pos h];exact ⟨l.take 90,by simp [h2],List.length_take_le _ _⟩
  ·rw [if_neg h];exact ⟨l,by simp,by omega⟩
 rw [em,Option.bind_some]
 obtain ⟨b1,m1,e1,r1,k1⟩:=v6 (m:=⟨m,0⟩) ⟨by simp,by simp,hl⟩
 obtain ⟨b2,m2,e2,r2,k2⟩:=v6 k1
 obtain ⟨b3,m3,e3,r3,k3⟩:=v6 k2
 obtain ⟨b4,m4,e4,r4,k4⟩:=v6 k3
 obtain ⟨b5,m5,e5,r5,k5⟩:=v6 k4
 obtain ⟨b6,m6,e6,r6,k6⟩:=v6 k5
 obtain ⟨b7,m7,e7,r7,k7⟩:=v6 k6
 obtain ⟨b8,m8,e8,r8,k8⟩:=v6 k7
 obtain ⟨b9,m9,e9,r9,k9⟩:=v6 k8
 obtain ⟨b10,m10,e10,r10,k10⟩:=v6 k9
 simp only [e1,e2,e3,e4,e5,e6,e7,e8,e9,e10,Option.bind_some]
 have t1:=vD r1.1 (show (0:Int)<3 by omega)
 have t2:=vD r2.1 (show (0:Int)<3 by omega)
 have t3:=vD r3.1 (show (0:Int)<3 by omega)
 have t4:=vD r4.1 (show (0:Int)<2 by omega)
 have t5:=vD r5.1 (show (0:Int)<3 by omega)
 have t6:=vD r6.1 (show (0:Int)<4 by omega)
 have t7:=vD r7.1 (show (0:Int)<4 by omega)
 have t8:=vD r8.1 (show (0:Int)<2 by omega)
 have t9:=vD r9.1 (show (0:Int)<6 by omega)
 have t10:=vD r10.1 (show (0:Int)<4 by omega)
 rw [yH (a:=1+b9.tmod 6) (by omega) (by omega),yH (a:=1+b1.tmod 3) (by omega) (by omega),yH (a:=1+b3.tmod 3) (by omega) (by omega),yH (a:=1+b4.tmod 2) (by omega) (by omega),yH (a:=1+b5.tmod 3) (by omega) (by omega),
  yH (a:=1+b9.tmod 6+b10.tmod 4) (by omega) (by omega),yH (a:=1+b8.tmod 2) (by omega) (by omega)]
 obtain ⟨m11,objs,e11,g1,g2,g3⟩:=zxY (s1:=1+b9.tmod 6) (s22:=1+b8.tmod 2) (by omega) (by omega) k10
 rw [e11]
 simp only [Option.bind_some]
 obtain ⟨b12,m12,e12,r12,k12⟩:=v6 g1
 rw [e12,Option.bind_some,yH (a:=1+b9.tmod 6+1) (by omega) (by omega),zq,if_neg (by omega)]
 have t12:=vD r12.1 (show (0:Int)<1+b9.tmod 6+1 by omega)
 rw [zmn,Option.bind_some]
 obtain ⟨regs,progs,e13,f1,f2,f3,f4⟩:=zxl (s1:=1+b9.tmod 6) (s15:=b2.tmod 3) (s22:=1+b8.tmod 2) (by omega) (by omega) (by omega) k12
 rw [e13]
 simp only [Option.bind_some]
 refine ⟨_,rfl,?_⟩
 constructor<;>dsimp only
 case objs=>intro o ho;rw [g2];exact g3 o ho
 case roots=>exact ⟨b12.tmod (1+b9.tmod 6+1),by omega,by omega,by simp⟩
 case reg=>rw [g2];exact f3
 case prog=>exact f4
 all_goals first | omega | rfl
end B16
end
end Go.Pe.G
namespace Go.Pe.G
open Go.Pe
noncomputable section
theorem U3 {α β B C:Type} {f:List α×Int×Int×β→Option (xu (List α×Int×Int×β) B C)} {l:List α} {e:β} {b:B} (hl:l.length<1000000)
  (h1: ∀(i:Nat) (x:α),l[i]? =some x→f (l,(l.length:Int),(i:Int),e)=some (.again (l,(l.length:Int),((i+1:Nat):Int),e)))
  (h2:f (l,(l.length:Int),(l.length:Int),e)=some (.brk b)):yA f (l,(l.length:Int),0,e)=some (.brk b):=by
 refine (Zk (f:=f) (fun a=>∃i:Nat,a=(l,(l.length:Int),(i:Int),e)∧i≤l.length) (fun a=>l.length-a.2.2.1.toNat) (fun o=>o= .brk b) ?_ (l,(l.length:Int),0,e) ⟨0,rfl,by omega⟩ (w6 (by simp;omega))).elim fun o h=> ?_
 rotate_left
 ·rw [h.1,h.2]
 ·rintro _ ⟨i,rfl,hi⟩
  rcases Nat.lt_or_ge i l.length with hlt | hge
  ·refine ⟨_,h1 i _ (List.getElem?_eq_getElem hlt),⟨i+1,rfl,hlt⟩,?_⟩
   show l.length-((i+1:Nat):Int).toNat<l.length-(i:Int).toNat
   omega
  ·have:i=l.length:=by omega
   subst this
   exact ⟨_,h2,rfl⟩
theorem wv {α:Type} {l:List α} {i:Nat} {x:α} (h:l[i]? =some x):idx l (i:Int)=some x:=by
 rw [ut (by omega)];simpa using h
theorem ug {α:Type} {l:List α} {i:Nat} {x:α} (h:l[i]? =some x):(i:Int)<(l.length:Int):=by
 have:=(List.getElem?_eq_some_iff.1 h).1;omega
theorem xl {i:Nat} (h:i<1000000):w64 ((i:Int)+1)=((i+1:Nat):Int):=by
 rw [yH (by omega) (by omega)];omega
theorem zdZ (a b c:Int):vW a b c=some (decide (b≤a∧a≤c),()):=by
 rw [znY,zq]
 by_cases h:b≤a
 ·rw [if_pos h];simp [h]
 ·rw [if_neg h];simp [h]
theorem zuK {l:List Int} {h:zt} (hl:l.length<1000000) (hv: ∀v∈l,0≤v∧v≤(h.Objs.length:Int)):we l h=some (false,()):=by
 rw [Yt,Y2,U3 (b:=()) hl (fun i x hx=> ?_) (by rw [vq];simp)]
 ·rfl
 ·have hm:=hv x (List.mem_of_getElem? hx)
  have hlt:=ug hx
  rw [vq,zq,if_pos hlt,wv hx,Option.bind_some,zkY,zq,if_neg (show ¬x<0 by omega),Option.bind_some,xl (by omega)]
  simp [show ¬(h.Objs.length:Int)<x by omega]
theorem zvE {l:List Int} {n:Int} (hl:l.length<1000000) (hv: ∀v∈l,0≤v∧v≤n):wt l n=some (false,()):=by
 rw [YR,XC,U3 (b:=()) hl (fun i x hx=> ?_) (by rw [vH];simp)]
 ·rfl
 ·have hm:=hv x (List.mem_of_getElem? hx)
  have hlt:=ug hx
  rw [vH,wv hx,Option.bind_some,zmK,zdZ,Option.bind_some,Option.bind_some,xl (by omega),zq,if_pos hlt]
  simp [hm]
theorem zqT {l:List (List Int)} {h:zt} (hl:l.length<1000000) (hs:h.Slots<1000000) (hv: ∀o∈l,(o.length:Int)=h.Slots∧∀v∈o,0≤v∧v≤(h.Objs.length:Int)):wa l h=some (false,()):=by
 rw [Yv,Xa,U3 (b:=()) hl (fun i x hx=> ?_) (by rw [vo];simp)]
 ·rfl
 ·have hm:=hv x (List.mem_of_getElem? hx)
  have hlt:=ug hx
  rw [vo,wv hx,Option.bind_some,zmO,yL,if_pos hm.1,zuK (by omega) hm.2,Option.bind_some,Option.bind_some,xl (by omega),zq,if_pos hlt]
  rfl
theorem zoC {r n:Int} (h:0≤r∧r<n) (h2:n≤4):zW r n=some (true,()):=by
 rw [zmV,zq,if_pos h.1,zq]
 rw [if_neg (by omega)]
 simp [h.2]
theorem zxB {o:zi} {regs slots:Int} (h:zcD o regs slots) (h2:regs≤4) (h3:slots≤4):zgU o regs slots=some (true,()):=by
 obtain ⟨hr,h⟩:=h
 have e1:=zoC hr h2
 have h4: ¬4<slots:=by omega
 rw [zn9]
 rcases h with ⟨hk | hk,ha,hs⟩ | ⟨hk,ha,hs⟩ | ⟨hk | hk,ha,hs⟩
 ·have e2:=zoC ha h2
  simp [hk,e1,e2,hs.1,hs.2,h4]
 ·have e2:=zoC ha h2
  simp [hk,e1,e2,hs.1,hs.2,h4]
 ·have e2:=zoC ha h2
  simp [hk,e1,e2,hs]
 ·simp [hk,e1,ha,hs]
 ·simp [hk,e1,ha,hs]
theorem zyu {l:List zi} {regs slots:Int} (hl:(l.length:Int)≤64) (h: ∀o∈l,zcD o regs slots) (h2:regs≤4) (h3:slots≤4):zi0 l regs slots=some (true,()):=by
 rw [zqu,zq,if_pos hl,ZG,Z0,U3 (b:=()) (by omega) (fun i x hx=> ?_) (by rw [wS];simp)]
 ·rfl
 ·have hlt:=ug hx
  rw [wS,wv hx,Option.bind_some,znJ,zxB (h x (List.mem_of_getElem? hx)) h2 h3,Option.bind_some,Option.bind_some,xl (by omega),zq,if_pos hlt]
  rfl
theorem zwd (a b:Int):zgS [] a b=some (true,()):=by
 rw [zpx,u5,Zy,U3 (b:=()) (by simp) (fun i x hx=>by simp at hx) (by rw [u6];simp)]
 rfl
def WN (n:Int):BitVec 64:=if n<1 then 0#64 else 18446744073709551615#64 >>> (64-min n 64).toNat
theorem zwE (n:Int) (h:0≤n):ziy n=some (WN n,()):=by
 rw [zpZ,zq]
 unfold WN
 by_cases h1:n<1
 ·rw [if_pos h1,if_pos h1]
 ·rw [if_neg h1,if_neg h1]
  simp only [zq]
  have e:(if 64<n then (64:Int) else n)=min n 64:=by
   by_cases h2:64<n
   ·rw [if_pos h2];omega
   ·rw [if_neg h2];omega
  rw [e,yH (by omega) (by omega),if_neg (by omega),Nat.min_eq_left (by omega)]
theorem zqU: ∀(r n:Fin 7),r.1≤n.1→bit (r.1:Int)&&& ~~~WN (n.1:Int)=0#64:=by decide
theorem zm3 {p:zb} (h:zE p):p.Roots&&& ~~~WN (p.H.Objs.length:Int)=0#64:=by
 obtain ⟨r,h1,h2,h3⟩:=h.roots
 have hn:=h.n
 have:=zqU ⟨r.toNat,by omega⟩ ⟨p.H.Objs.length,by omega⟩ (by show r.toNat≤p.H.Objs.length;omega)
 rw [h3]
 simpa [Int.toNat_of_nonneg h1] using this
theorem zvl {p:zb} (h:zE p):zal p=some (true,()):=by
 obtain ⟨h1,h2,h3,h4,h5,h6,h7,_⟩:=h
 rw [zjT]
 simp only [zdZ,Option.bind_some,zq]
 rw [if_pos (by omega),if_pos (by omega),if_pos (by omega),if_pos (by omega),if_pos (by omega),if_pos (by split<;>omega)]
 have:(if p.Price<p.Limit then p.Limit else p.Price)≤1000000:=by split<;>omega
 simp [this]
theorem zu4 {p:zb} (h:zE p):W5 p.H=some (true,()):=by
 have:=h.slots
 have:=h.n
 rw [zhO,zq,if_pos (by omega),zq,if_pos (by omega),zq,if_pos (by omega),zqT (by omega) (by omega) h.objs]
 rfl
theorem zuM {p:zb} (h:zE p):zhi p=some (true,()):=by
 have hn:=h.n
 have hm:=h.most
 have hsl:=h.slots
 have hmt:=h.mt
 have hrl:=h.regs
 have hpl:=h.progs
 rw [zod,zvl h]
 simp only [Option.bind_some,Bool.not_true,cond_false,zu4 h,zdZ]
 rw [show decide ((p.H.Objs.length:Int)≤p.Most∧p.Most≤64)=true by simp;omega]
 simp only [Bool.not_true,cond_false,zwE _ (show (0:Int)≤(p.H.Objs.length:Int) by omega),Option.bind_some,zqB,zm3 h,decide_true,yL,if_pos h.regs,if_pos h.progs]
 rw [U3 (b:=(p,())) (by omega) (fun i x hx=> ?_) (by rw [zeD];simp)]
 ·simp [h.picks,zwd]
 ·have hlt:=ug hx
  have hr:=h.reg x (List.mem_of_getElem? hx)
  obtain ⟨ops,hops⟩: ∃ops,p.Progs[i]? =some ops:=⟨_,List.getElem?_eq_getElem (by omega)⟩
  obtain ⟨o1,o2⟩:=h.prog i x ops hx hops
  rw [zeD,zq,if_pos hlt,wv hx]
  simp only [Option.bind_some,zdZ]
  rw [show decide (1≤(x.length:Int)∧(x.length:Int)≤4)=true by simp;omega]
  simp only [Bool.not_true,cond_false,zvE (show x.length<1000000 by omega) hr.2,Option.bind_some,wv hops,zyu (show (ops.length:Int)≤64 by omega) o2 (show (x.length:Int)≤4 by omega) (show p.H.Slots≤4 by omega),xl (show i<1000000 by omega)]
end
end Go.Pe.G
namespace Go.Pe.G
open Go.Pe
noncomputable section
theorem zhc {n:Int} (h:0≤n) (h2:n<4294967296):Xq n=some n.toNat:=by rw [zhW];simp [h,h2]
theorem zra {n:Int} (h:0<n) (h2:n<4294967296):zev n=some n.toNat:=by rw [zoM];simp [h,h2]
def zpi (l:List Int):BitVec 64:=l.foldl (fun s o=>s|||bit o) 0#64
def YP (p:zb):BitVec 64:=p.Regs.foldl (fun s l=>s|||zpi l) p.Roots
def zzG (a1:BitVec 64):BitVec 64 :=
 let a:=((a1 >>> 1)&&&6148914691236517205#64)+(a1&&&6148914691236517205#64)
 let b:=((a >>> 2)&&&3689348814741910323#64)+(a&&&3689348814741910323#64)
 let c:=((b >>> 4)+b)&&&1085102592571150095#64
 let d:=c+(c >>> 8)
 let e:=d+(d >>> 16)
 e+(e >>> 32)
def cnt (s:BitVec 64):Int:=(BitVec.ofInt 64 (zzG s).toInt&&&BitVec.ofInt 64 127).toInt
theorem zwk (s:BitVec 64):ziX s=some (cnt s,()):=by
 rw [zqd,zjH,zsq];rfl
theorem Vr {m:List Int} (h:m.length<4294967296):xd m=some (m,()):=by
 rw [zeX,List.nil_append,wD h,Option.bind_some]
 cases m with
 | nil=>simp [zhR]
 | cons a l=>simp
theorem zza {l:List Int} (hl:l.length<1000000):zno l=some (zpi l,()):=by
 rw [ztF]
 refine (Zk (f:=ziv) (fun a=>∃i:Nat,a=((l.take i).foldl (fun s o=>s|||bit o) 0#64,l,(l.length:Int),(i:Int),())∧i≤l.length) (fun a=>l.length-a.2.2.2.1.toNat) (fun o=>o= .brk (zpi l,())) ?_ (0#64,l,(l.length:Int),0,()) ⟨0,rfl,by omega⟩ (w6 (by simp;omega))).elim fun o h=> ?_
 rotate_left
 ·rw [h.1,h.2];rfl
 ·rintro _ ⟨i,rfl,hi⟩
  rw [zqC,zq]
  rcases Nat.lt_or_ge i l.length with hlt | hge
  ·have hx:=List.getElem?_eq_getElem hlt
   rw [if_pos (by omega),wv hx,Option.bind_some,zmn,Option.bind_some,xl (by omega)]
   refine ⟨_,rfl,⟨i+1,?_,hlt⟩,?_⟩
   ·rw [List.take_add_one,hx];simp only [Option.toList_some,List.foldl_append,List.foldl_cons,List.foldl_nil]
   ·show l.length-((i+1:Nat):Int).toNat<l.length-(i:Int).toNat
    omega
  ·rw [if_neg (by omega)]
   have:i=l.length:=by omega
   subst this
   exact ⟨_,rfl,by rw [List.take_length];rfl⟩
theorem zuF {p:zb} (hl:p.Regs.length<1000000) (hr: ∀r∈p.Regs,r.length<1000000):zge p=some (YP p,()):=by
 rw [zpq]
 refine (Zk (f:=zb3) (fun a=>∃i:Nat,a=((p.Regs.take i).foldl (fun s l=>s|||zpi l) p.Roots,p.Regs,(p.Regs.length:Int),(i:Int),())∧i≤p.Regs.length) (fun a=>p.Regs.length-a.2.2.2.1.toNat) (fun o=>o= .brk (YP p,())) ?_ (p.Roots,p.Regs,(p.Regs.length:Int),0,()) ⟨0,rfl,by omega⟩ (w6 (by simp;omega))).elim fun o h=> ?_
 rotate_left
 ·rw [h.1,h.2];rfl
 ·rintro _ ⟨i,rfl,hi⟩
  rw [zmf,zq]
  rcases Nat.lt_or_ge i p.Regs.length with hlt | hge
  ·have hx:=List.getElem?_eq_getElem hlt
   rw [if_pos (by omega),wv hx,Option.bind_some,zza (hr _ (List.getElem_mem hlt)),Option.bind_some,xl (by omega)]
   refine ⟨_,rfl,⟨i+1,?_,hlt⟩,?_⟩
   ·rw [List.take_add_one,hx];simp only [Option.toList_some,List.foldl_append,List.foldl_cons,List.foldl_nil]
   ·show p.Regs.length-((i+1:Nat):Int).toNat<p.Regs.length-(i:Int).toNat
    omega
  ·rw [if_neg (by omega)]
   have:i=p.Regs.length:=by omega
   subst this
   exact ⟨_,rfl,by rw [List.take_length];rfl⟩
theorem zwI {l:List (List Int)} (hl:l.length<1000000) (h: ∀r∈l,r.length<1000000):wN l=some (l,()):=by
 have key: ∀n:Int,n=(l.length:Int)→yA yO (n,0,l,())=some (.brk (l,())):=by
  rintro _ rfl
  refine (Zk (f:=yO) (fun a=>∃i:Nat,a=((l.length:Int),(i:Int),l,())∧i≤l.length) (fun a=>l.length-a.2.1.toNat) (fun o=>o= .brk (l,())) ?_ ((l.length:Int),0,l,()) ⟨0,rfl,by omega⟩ (w6 (by simp;omega))).elim fun o h=> ?_
  rotate_left
  ·rw [h.1,h.2]
  ·rintro _ ⟨i,rfl,hi⟩
   rw [Y3,zq]
   rcases Nat.lt_or_ge i l.length with hlt | hge
   ·have hx:=List.getElem?_eq_getElem hlt
    have hr:=h _ (List.getElem_mem hlt)
    have e:xg l (i:Int)=some i:=by rw [ZI (by omega) (by omega)];simp
    rw [if_pos (by omega),e]
    simp only [Option.bind_some]
    rw [hx,Option.bind_some,Vr (by omega),Option.bind_some,xl (by omega)]
    refine ⟨_,rfl,⟨i+1,by simp,hlt⟩,?_⟩
    show l.length-((i+1:Nat):Int).toNat<l.length-(i:Int).toNat
    omega
   ·rw [if_neg (by omega)]
    have:i=l.length:=by omega
    subst this
    exact ⟨_,rfl,rfl⟩
 have hc:Xq (l.length:Int)=some l.length:=by rw [zhc (by omega) (by omega)];simp
 rw [X7]
 simp only [decide_true,cond_true,hc,Option.bind_some,List.length_replicate]
 cases l with
 | nil=>simp;rw [key 0 rfl];rfl
 | cons a r=>simp only [List.isEmpty_cons,cond_false];rw [key _ rfl];rfl
def zei (cap:Int):List (BitVec 64):=[1#64,1#64]++List.replicate cap.toNat 0#64
theorem ztW {c:Int} (h:1≤c) (h2:c≤64):zeI c=some (zei c,()):=by
 have e:(if 64<(if c<1 then (1:Int) else c) then (64:Int) else (if c<1 then (1:Int) else c))=c:=by
  rw [if_neg (show ¬c<1 by omega),if_neg (by omega)]
 have w:w64 (2+c)=2+c:=yH (by omega) (by omega)
 have hc:Xq (2+c)=some (2+c.toNat):=by rw [zhc (by omega) (by omega)];congr 1;omega
 rw [zni]
 simp only [zq,e,w,if_true,hc,Option.bind_some]
 rw [ZI (by omega) (by simp;omega),Option.bind_some,ZI (by omega) (by simp;omega),Option.bind_some]
 have e2:List.replicate (2+c.toNat) 0#64=0#64::0#64::List.replicate c.toNat 0#64:=by rw [Nat.add_comm 2];rfl
 rw [e2];rfl
theorem zvB {m:Int} (h:0≤m) (h2:m≤16):zgE m=some (⟨0,0,0,List.replicate m.toNat 0⟩,()):=by
 have e:(if (if 16<m then (16:Int) else m)<0 then (0:Int) else (if 16<m then (16:Int) else m))=m:=by
  rw [if_neg (show ¬16<m by omega),if_neg (by omega)]
 have hc:Xq m=some m.toNat:=zhc (by omega) (by omega)
 rw [zpk]
 simp only [zq,e,if_true,hc,Option.bind_some]
def links (m:List (BitVec 64)) (next:Int):List Int→List (BitVec 64)
 | []=>m
 | [a]=>st m (wc (next+a)) 0#64
 | a::b::l=>links (st m (wc (next+a)) (BitVec.ofInt 64 b)) next (b::l)
def za1 (m:List (BitVec 64)) (head next:Int) (l:List Int):List (BitVec 64):=st (links m next l) head (yU 0#64 (l.headD 0))
theorem Zl (m:List (BitVec 64)) (a:Int) (v:BitVec 64):(st m a v).length=m.length:=by unfold st;split<;>simp
theorem zbp: ∀(l:List Int) (m:List (BitVec 64)) (n:Int),(links m n l).length=m.length
 | [],_,_=>rfl
 | [a],m,n=>Zl _ _ _
 | a::b::l,m,n=>by simp only [links];rw [zbp (b::l),Zl]
theorem znV (m:List (BitVec 64)) (h n:Int) (l:List Int):(za1 m h n l).length=m.length:=by unfold za1;rw [Zl,zbp]
theorem znC {head next:Int} {l:List Int} (hl:l.length<1000000): ∀(k:Nat) (m:List (BitVec 64)) (i:Nat),l.length-i=k→i≤l.length→m.length<4294967296 →
  ∀n,k<n→uY zc7 n (m,head,next,l,(l.length:Int),(i:Int),())=some (.brk (links m next (l.drop i),head,l,()))
 | 0,m,i,hk,hi,hm,n+1,hn=>by
  have:i=l.length:=by omega
  subst this
  simp only [uY]
  rw [zfl,zq,if_neg (by omega),Option.bind_some,List.drop_length];rfl
 | k+1,m,i,hk,hi,hm,n+1,hn=>by
  have hlt:i<l.length:=by omega
  have hx:=List.getElem?_eq_getElem hlt
  simp only [uY]
  rw [zfl,zq,if_pos (by omega),xl (by omega),zq,wM]
  by_cases h2:i+1<l.length
  ·have hy:=List.getElem?_eq_getElem h2
   have ed:l.drop i=l[i]::l[i+1]::l.drop (i+2):=by
    rw [List.drop_eq_getElem_cons hlt,List.drop_eq_getElem_cons h2]
   rw [if_pos (by omega),wv hy,Option.bind_some,wv hx,Option.bind_some,zan hm,Option.bind_some,Option.bind_some]
   dsimp only
   rw [znC hl k _ (i+1) (by omega) (by omega) (by rw [Zl];exact hm) n (by omega),ed]
   rw [List.drop_eq_getElem_cons h2];rfl
  ·have ed:l.drop i=[l[i]]:=by
    rw [List.drop_eq_getElem_cons hlt,List.drop_eq_nil_of_le (by omega)]
   rw [if_neg (by omega),wv hx,Option.bind_some,zan hm,Option.bind_some,Option.bind_some]
   dsimp only
   rw [znC hl k _ (i+1) (by omega) (by omega) (by rw [Zl];exact hm) n (by omega),ed,List.drop_eq_nil_of_le (by omega)]
   rfl
theorem zqQ {m:List (BitVec 64)} (hm:m.length<4294967296) {head next:Int} {l:List Int} (hl:l.length<1000000):zdO m head next l=some (za1 m head next l,()):=by
 have e:=znC (head:=head) (next:=next) hl l.length m 0 (by omega) (by omega) hm YW (w6 (by omega))
 rw [show ((0:Nat):Int)=0 from rfl] at e
 rw [zpJ,UI,e]
 simp only [Option.bind_some,List.drop_zero,zq]
 unfold za1
 cases l with
 | nil =>
  rw [if_neg (by simp),zfR,Option.bind_some,zan (by rw [zbp];exact hm)];rfl
 | cons a r =>
  have:idx (a::r) 0=some a:=by rw [ut (by omega)];rfl
  rw [if_pos (by simp),this,Option.bind_some,zfR,Option.bind_some,zan (by rw [zbp];exact hm)];rfl
def zrM:Nat→BitVec 64→Option (List Int)
 | 0,_=>none
 | f+1,s=>bif decide (s=0#64) then some [] else (zrM f (s&&&(s-1#64))).map fun l=>(((Go.Lib.ctz 64 s.toNat:Nat):Int)+1)::l
theorem zud: ∀t:Fin 64,zrM 66 (BitVec.ofNat 64 t.1)=some (((List.range 6).filter fun i=>(BitVec.ofNat 64 t.1).getLsbD i).map fun i:Nat=>(i:Int)+1):=by decide +kernel
def Vs (s:BitVec 64):List Int:=((List.range 6).filter fun i=>s.getLsbD i).map fun i:Nat=>(i:Int)+1
theorem zsw {s:BitVec 64} (h:s&&& ~~~63#64=0#64): ∃t:Fin 64,s=BitVec.ofNat 64 t.1:=by
 have h2:s=s&&&63#64:=by
  apply BitVec.eq_of_getLsbD_eq
  intro i hi
  have:=congrArg (fun x=>x.getLsbD i) h
  simp only [BitVec.getLsbD_and,BitVec.getLsbD_not,hi,decide_true,Bool.true_and,BitVec.getLsbD_zero] at this ⊢
  cases h1:s.getLsbD i<;>cases h3:(63#64:BitVec 64).getLsbD i<;>simp_all
 have h3:s.toNat<64:=by
  rw [h2,BitVec.toNat_and]
  exact Nat.lt_of_le_of_lt Nat.and_le_right (by decide)
 exact ⟨⟨s.toNat,h3⟩,by simp⟩
theorem zzl: ∀t:Fin 64,Go.Lib.ctz 64 t.1≤64:=by decide +kernel
theorem zq8: ∀(f:Nat) (s:BitVec 64),s.toNat<64→zby f s=zrM f s
 | 0,_,_=>rfl
 | f+1,s,h=>by
  simp only [zby,zrM]
  rw [zq8 f _ (by rw [BitVec.toNat_and];exact Nat.lt_of_le_of_lt Nat.and_le_left h)]
  have:Go.Lib.ctz 64 s.toNat≤64:=zzl ⟨s.toNat,h⟩
  have e:w64 (tz s+1)=((Go.Lib.ctz 64 s.toNat:Nat):Int)+1:=by
   unfold tz
   exact yH (by omega) (by omega)
  rw [e]
theorem zpp: ∀(l acc:List Int),(acc.length+l.length)<4294967296→Z9 zeY l (acc,())=some (acc++l,())
 | [],acc,_=>by simp [Z9]
 | a::l,acc,h=>by
  simp only [List.length_cons] at h
  rw [Z9,znA,wD (by simp;omega),Option.bind_some,Option.bind_some,zpp l _ (by simp;omega)]
  simp
theorem zvN (s:BitVec 64):(Vs s).length≤6:=by
 unfold Vs
 rw [List.length_map]
 exact Nat.le_trans (List.length_filter_le _ _) (by simp)
theorem zw5 {s:BitVec 64} (h:s&&& ~~~63#64=0#64):zj1 s=some (Vs s,()):=by
 obtain ⟨t,rfl⟩:=zsw h
 have e:zlw (BitVec.ofNat 64 t.1)=some (Vs (BitVec.ofNat 64 t.1)):=by
  show zby 66 _=_
  rw [zq8 66 _ (by simp;omega),zud t];rfl
 have:=zvN (BitVec.ofNat 64 t.1)
 rw [zrk,zrC,Option.bind_some,e,Option.bind_some,zpp _ _ (by simp;omega)]
 rfl
theorem zoz (n:Nat) (hn:1≤n): ∀(f:Nat) (l:List Int),(vd n f l).length≤l.length
 | 0,l=>by simp [vd]
 | f+1,[]=>by simp [vd]
 | f+1,x::l=>by
  have:=zoz n hn f ((x::l).drop n)
  simp only [vd,List.length_cons,List.length_drop] at this ⊢
  omega
theorem ziF (n:Nat): ∀(f:Nat) (l c:List Int),c∈vd n f l→c.length≤l.length
 | 0,l,c,h=>by simp [vd] at h
 | f+1,[],c,h=>by simp [vd] at h
 | f+1,x::l,c,h=>by
  simp only [vd,List.mem_cons] at h
  rcases h with rfl | h
  ·rw [List.length_take];exact Nat.min_le_right _ _
  ·have:=ziF n f _ c h
   simp only [List.length_drop] at this
   omega
def ZH (p:zb) (w:Nat):zg:=⟨0,0,0,(w:Int)+1,0,[],⟨2,0,zN p ((w:Int)+1),p.Cap,0#64,0#64,0,0⟩,⟨0,0,0,0,0#64,0,0,0⟩,⟨0,0,0,0,⟨0,0,0,0,0#64,0#64,0,0⟩,⟨0,0,0,0,0#64,0,0,0⟩,0,0⟩⟩
def ZU (p:zb) (k:Nat):List (BitVec 64):=(List.range k).flatMap fun _=>zei p.Cap
theorem zoY (c:Int):(zei c).length=c.toNat+2:=by unfold zei;rw [List.length_append,List.length_replicate];exact Nat.add_comm _ _
theorem zio (p:zb) (k:Nat):ZU p (k+1)=ZU p k++zei p.Cap:=by unfold ZU;rw [List.range_succ,List.flatMap_append];simp
theorem VJ (p:zb): ∀k,(ZU p k).length=k*(p.Cap.toNat+2)
 | 0=>by simp [ZU]
 | k+1=>by rw [zio,List.length_append,VJ p k,zoY,Nat.succ_mul]
theorem zyI {p:zb} {s1:BitVec 64} {s5:Int} {s6:Int} {s7:Int} {s8:Int} {s9:Int} {s10:Int} {s11:Int} {s12:Int} {s13:Int} {s14:BitVec 64} {s15:Int} {s16:zr} {s17:Int} {s18:Int} {s19:Bool} {s20:Bool} {s21:Int} {s22:Int} {s23:Int} {s24:Int} {s25:zy} {s26:zb} {s27:Int} {s28:zr} {s29:Int} {s30:Int} {s31:Bool} {s32:Bool} {s33:Int} {s34:zj} {s35:zy} {s36:List (List Int)} {s37:List (List Int)} {s38:List (List zi)} {s39:List zl} {s40:List (List Int)} {s41:List (BitVec 64)} {s42:List (List Int)} {s43:List Int} {s44:List Int} {s45:List zg} {s46:List zc} {s47:List (List Int)} {s49:List (List Int)} {s50:List Int} {s52:List zc} (hp:zE p) :
  yA UZ (s1,p.Workers,0,p,s5,s6,s7,s8,s9,s10,s11,s12,s13,s14,s15,s16,s17,s18,s19,s20,s21,s22,s23,s24,s25,s26,s27,s28,s29,s30,s31,s32,s33,s34,s35,s36,s37,s38,s39,s40,s41,s42,s43,s44,s45,s46,s47,[],s49,s50,[],s52,())=some (.brk (s1,p,s5,s6,s7,s8,s9,s10,s11,s12,s13,s14,s15,s16,s17,s18,s19,s20,s21,s22,s23,s24,s25,s26,s27,s28,s29,s30,s31,s32,s33,s34,s35,s36,s37,s38,s39,s40,s41,s42,s43,s44,s45,s46,s47,(ZU p p.Workers.toNat),s49,s50,((List.range p.Workers.toNat).map (ZH p)),s52,())):=by
 have hw:=hp.wk
 have hc:=hp.cap
 refine (Zk (f:=UZ) (fun a=>∃i:Nat,a=(s1,p.Workers,(i:Int),p,s5,s6,s7,s8,s9,s10,s11,s12,s13,s14,s15,s16,s17,s18,s19,s20,s21,s22,s23,s24,s25,s26,s27,s28,s29,s30,s31,s32,s33,s34,s35,s36,s37,s38,s39,s40,s41,s42,s43,s44,s45,s46,s47,(ZU p i),s49,s50,((List.range i).map (ZH p)),s52,())∧(i:Int)≤p.Workers) (fun a=>(p.Workers-a.2.2.1).toNat) (fun o=>o= .brk (s1,p,s5,s6,s7,s8,s9,s10,s11,s12,s13,s14,s15,s16,s17,s18,s19,s20,s21,s22,s23,s24,s25,s26,s27,s28,s29,s30,s31,s32,s33,s34,s35,s36,s37,s38,s39,s40,s41,s42,s43,s44,s45,s46,s47,(ZU p p.Workers.toNat),s49,s50,((List.range p.Workers.toNat).map (ZH p)),s52,())) ?_ (s1,p.Workers,0,p,s5,s6,s7,s8,s9,s10,s11,s12,s13,s14,s15,s16,s17,s18,s19,s20,s21,s22,s23,s24,s25,s26,s27,s28,s29,s30,s31,s32,s33,s34,s35,s36,s37,s38,s39,s40,s41,s42,s43,s44,s45,s46,s47,[],s49,s50,[],s52,()) ⟨0,rfl,by omega⟩ (w6 (by dsimp only;omega))).elim fun o h=> ?_
 rotate_left
 ·rw [h.1,h.2]
 ·rintro _ ⟨i,rfl,hi⟩
  rw [zmB,zq]
  by_cases hlt:(i:Int)<p.Workers
  ·have hl:=VJ p i
   have hl2:=zoY p.Cap
   have hb:i*(p.Cap.toNat+2)≤3*5:=Nat.mul_le_mul (by omega) (by omega)
   rw [if_pos hlt,ztW hc.1 (by omega),Option.bind_some,wD (l:=ZU p i++zei p.Cap) (by rw [List.length_append];omega),Option.bind_some,zmZ,Option.bind_some,zg9,Option.bind_some,wD (by simp<;>omega),Option.bind_some,xl (by omega)]
   refine ⟨_,rfl,⟨i+1,?_,by omega⟩,?_⟩
   ·rw [zio,List.range_succ,List.map_append];rfl
   ·show (p.Workers-((i+1:Nat):Int)).toNat<(p.Workers-(i:Int)).toNat
    omega
  ·rw [if_neg hlt]
   have:i=p.Workers.toNat:=by omega
   subst this
   exact ⟨_,rfl,rfl⟩
def xi (k:Nat):List Int:=(List.range k).map fun i:Nat=>(i:Int)+1
theorem zr5 (k:Nat):(xi k).length=k:=by simp [xi]
theorem zx5 {b:Int} {s1:BitVec 64} {s4:zb} {s5:Int} {s6:Int} {s7:Int} {s8:Int} {s9:Int} {s10:Int} {s11:Int} {s12:Int} {s13:Int} {s14:BitVec 64} {s15:Int} {s16:zr} {s17:Int} {s18:Int} {s19:Bool} {s20:Bool} {s21:Int} {s22:Int} {s23:Int} {s24:Int} {s25:zy} {s26:zb} {s27:Int} {s28:zr} {s29:Int} {s30:Int} {s31:Bool} {s32:Bool} {s33:Int} {s34:zj} {s35:zy} {s37:List (List Int)} {s38:List (List Int)} {s39:List (List zi)} {s40:List zl} {s41:List (List Int)} {s42:List (BitVec 64)} {s43:List (List Int)} {s44:List Int} {s45:List Int} {s46:List zg} {s47:List zc} {s48:List (List Int)} {s49:List (BitVec 64)} {s50:List (List Int)} {s51:List Int} {s52:List zg} {s53:List zc} (hb:0≤b∧b<1000) :
  yA Ur (s1,b,0,s4,s5,s6,s7,s8,s9,s10,s11,s12,s13,s14,s15,s16,s17,s18,s19,s20,s21,s22,s23,s24,s25,s26,s27,s28,s29,s30,s31,s32,s33,s34,s35,[],s37,s38,s39,s40,s41,s42,s43,s44,s45,s46,s47,s48,s49,s50,s51,s52,s53,())=some (.brk (s1,s4,s5,s6,s7,s8,s9,s10,s11,s12,s13,s14,s15,s16,s17,s18,s19,s20,s21,s22,s23,s24,s25,s26,s27,s28,s29,s30,s31,s32,s33,s34,s35,(xi b.toNat),s37,s38,s39,s40,s41,s42,s43,s44,s45,s46,s47,s48,s49,s50,s51,s52,s53,())):=by
 refine (Zk (f:=Ur) (fun a=>∃i:Nat,a=(s1,b,(i:Int),s4,s5,s6,s7,s8,s9,s10,s11,s12,s13,s14,s15,s16,s17,s18,s19,s20,s21,s22,s23,s24,s25,s26,s27,s28,s29,s30,s31,s32,s33,s34,s35,(xi i),s37,s38,s39,s40,s41,s42,s43,s44,s45,s46,s47,s48,s49,s50,s51,s52,s53,())∧(i:Int)≤b) (fun a=>(b-a.2.2.1).toNat) (fun o=>o= .brk (s1,s4,s5,s6,s7,s8,s9,s10,s11,s12,s13,s14,s15,s16,s17,s18,s19,s20,s21,s22,s23,s24,s25,s26,s27,s28,s29,s30,s31,s32,s33,s34,s35,(xi b.toNat),s37,s38,s39,s40,s41,s42,s43,s44,s45,s46,s47,s48,s49,s50,s51,s52,s53,())) ?_ (s1,b,0,s4,s5,s6,s7,s8,s9,s10,s11,s12,s13,s14,s15,s16,s17,s18,s19,s20,s21,s22,s23,s24,s25,s26,s27,s28,s29,s30,s31,s32,s33,s34,s35,[],s37,s38,s39,s40,s41,s42,s43,s44,s45,s46,s47,s48,s49,s50,s51,s52,s53,()) ⟨0,rfl,by omega⟩ (w6 (by dsimp only;omega))).elim fun o h=> ?_
 rotate_left
 ·rw [h.1,h.2]
 ·rintro _ ⟨i,rfl,hi⟩
  rw [zlP,zq]
  by_cases hlt:(i:Int)<b
  ·have:=zr5 i
   rw [if_pos hlt,wD (by rw [List.length_append];simp;omega),Option.bind_some,xl (by omega)]
   refine ⟨_,rfl,⟨i+1,?_,by omega⟩,?_⟩
   ·unfold xi;rw [List.range_succ,List.map_append];rfl
   ·show (b-((i+1:Nat):Int)).toNat<(b-(i:Int)).toNat
    omega
  ·rw [if_neg hlt]
   have:i=b.toNat:=by omega
   subst this
   exact ⟨_,rfl,rfl⟩
theorem zur {s1:zb} {s2:Int} {s3:Int} {s4:Int} {s5:Int} {s6:Int} {s7:Int} {s8:Int} {s9:Int} {s10:Int} {s11:BitVec 64} {s12:Int} {s13:zr} {s14:Int} {s15:Int} {s16:Bool} {s17:Bool} {s18:Int} {s19:Int} {s20:Int} {s21:Int} {s22:zy} {s23:zb} {s24:Int} {s25:zr} {s26:Int} {s27:Int} {s28:Bool} {s29:Bool} {s30:Int} {s31:zj} {s32:zy} {s33:List Int} {s34:List (List Int)} {s35:List (List Int)} {s36:List (List zi)} {s37:List zl} {s38:List (List Int)} {s39:List (BitVec 64)} {s40:List (List Int)} {s41:List Int} {s42:List Int} {s43:List zg} {s44:List zc} {s45:List (List Int)} {s46:List (BitVec 64)} {s48:List Int} {s49:List zg} {s50:List zc}: ∀(ys acc:List (List Int)),acc.length+ys.length<1000000→(∀c∈ys,c.length<1000000)→Z9 zcj ys (s1,s2,s3,s4,s5,s6,s7,s8,s9,s10,s11,s12,s13,s14,s15,s16,s17,s18,s19,s20,s21,s22,s23,s24,s25,s26,s27,s28,s29,s30,s31,s32,s33,s34,s35,s36,s37,s38,s39,s40,s41,s42,s43,s44,s45,s46,acc,s48,s49,s50,())=some (s1,s2,s3,s4,s5,s6,s7,s8,s9,s10,s11,s12,s13,s14,s15,s16,s17,s18,s19,s20,s21,s22,s23,s24,s25,s26,s27,s28,s29,s30,s31,s32,s33,s34,s35,s36,s37,s38,s39,s40,s41,s42,s43,s44,s45,s46,(acc++ys),s48,s49,s50,())
 | [],acc,_,_=>by simp [Z9]
 | y::ys,acc,h,hc=>by
  simp only [List.length_cons] at h
  have hy:=hc y (List.mem_cons_self ..)
  rw [Z9,zlQ,Vr (by omega),Option.bind_some,wD (by simp<;>omega),Option.bind_some,Option.bind_some,zur ys _ (by simp<;>omega) (fun c h'=>hc c (List.mem_cons_of_mem _ h'))]
  simp
def wQ (r:List Int):zc:=⟨0,0,0,0,0,0,0,0,r,[],[],⟨0,0,0,0,0#64,0,0,0⟩,⟨0,0,0,0,⟨0,0,0,0,0#64,0#64,0,0⟩,⟨0,0,0,0,0#64,0,0,0⟩,0,0⟩⟩
theorem zxX {p:zb} {s4:Int} {s5:Int} {s6:Int} {s7:Int} {s8:Int} {s9:Int} {s10:Int} {s11:Int} {s12:Int} {s13:BitVec 64} {s14:Int} {s15:zr} {s16:Int} {s17:Int} {s18:Bool} {s19:Bool} {s20:Int} {s21:Int} {s22:Int} {s23:Int} {s24:zy} {s25:zb} {s26:Int} {s27:List (BitVec 64)} {s28:zr} {s29:Int} {s30:Int} {s31:Bool} {s32:Bool} {s33:Int} {s34:zj} {s35:zy} {s36:List (List Int)} {s37:List (List Int)} {s38:List (List zi)} {s39:List zl} {s40:List (List Int)} {s41:List (BitVec 64)} {s42:List (List Int)} {s43:List Int} {s44:List Int} {s45:List zg} {s46:List zc} {s47:List (List Int)} {s48:List (List Int)} {s49:List Int} {s50:List zg} (hl:p.Regs.length<1000000) (hr: ∀r∈p.Regs,r.length<1000000) :
  yA Ut (p.Regs,(p.Regs.length:Int),0,s4,s5,s6,s7,s8,s9,s10,s11,s12,s13,s14,s15,s16,s17,s18,s19,s20,s21,s22,s23,s24,s25,s26,s27,s28,s29,s30,s31,s32,s33,s34,s35,s36,s37,s38,s39,s40,s41,s42,s43,s44,s45,s46,s47,s48,s49,s50,[],())=some (.brk (s4,s5,s6,s7,s8,s9,s10,s11,s12,s13,s14,s15,s16,s17,s18,s19,s20,s21,s22,s23,s24,s25,s26,s27,s28,s29,s30,s31,s32,s33,s34,s35,s36,s37,s38,s39,s40,s41,s42,s43,s44,s45,s46,s47,s48,s49,s50,(p.Regs.map wQ),())):=by
 refine (Zk (f:=Ut) (fun a=>∃i:Nat,a=(p.Regs,(p.Regs.length:Int),(i:Int),s4,s5,s6,s7,s8,s9,s10,s11,s12,s13,s14,s15,s16,s17,s18,s19,s20,s21,s22,s23,s24,s25,s26,s27,s28,s29,s30,s31,s32,s33,s34,s35,s36,s37,s38,s39,s40,s41,s42,s43,s44,s45,s46,s47,s48,s49,s50,((p.Regs.take i).map wQ),())∧i≤p.Regs.length) (fun a=>p.Regs.length-a.2.2.1.toNat) (fun o=>o= .brk (s4,s5,s6,s7,s8,s9,s10,s11,s12,s13,s14,s15,s16,s17,s18,s19,s20,s21,s22,s23,s24,s25,s26,s27,s28,s29,s30,s31,s32,s33,s34,s35,s36,s37,s38,s39,s40,s41,s42,s43,s44,s45,s46,s47,s48,s49,s50,(p.Regs.map wQ),())) ?_ (p.Regs,(p.Regs.length:Int),0,s4,s5,s6,s7,s8,s9,s10,s11,s12,s13,s14,s15,s16,s17,s18,s19,s20,s21,s22,s23,s24,s25,s26,s27,s28,s29,s30,s31,s32,s33,s34,s35,s36,s37,s38,s39,s40,s41,s42,s43,s44,s45,s46,s47,s48,s49,s50,[],()) ⟨0,rfl,by omega⟩ (w6 (by dsimp only;omega))).elim fun o h=> ?_
 rotate_left
 ·rw [h.1,h.2]
 ·rintro _ ⟨i,rfl,hi⟩
  rw [zlL,zq]
  rcases Nat.lt_or_ge i p.Regs.length with hlt | hge
  ·have hx:=List.getElem?_eq_getElem hlt
   have hh:=hr _ (List.getElem_mem hlt)
   rw [if_pos (by omega),wv hx,Option.bind_some,Vr (by omega),Option.bind_some,wD (by simp<;>omega),Option.bind_some,xl (by omega)]
   refine ⟨_,rfl,⟨i+1,?_,hlt⟩,?_⟩
   ·rw [List.take_add_one,hx,List.map_append];rfl
   ·show p.Regs.length-((i+1:Nat):Int).toNat<p.Regs.length-(i:Int).toNat
    omega
  ·rw [if_neg (by omega)]
   have:i=p.Regs.length:=by omega
   subst this
   exact ⟨_,rfl,by rw [List.take_length]⟩
def zO (p:zb):Nat:=(p.Most+p.Workers+p.Mutators).toNat
def yV (p:zb):List (List Int):=vd p.Bin.toNat (Vs (YP p)).length (Vs (YP p))
def yW (p:zb):za :=
 {P:=p,H:=p.H,
  M:=za1 (za1 (ZU p p.Workers.toNat++List.replicate (2+zO p) 0#64) (z7 p) (zD p) ((xi (zO p)).take (yV p).length)) (zD p) (zD p) ((xi (zO p)).drop (yV p).length),
  Bins:=[[]]++yV p++List.replicate (zO p-(yV p).length) [],
  T:=⟨YP p,0#64⟩,Work:=cnt (YP p),Epoch:=0,Flag:=false,Done:=false,Restarts:=0,
  Acks:=List.replicate p.Mutators.toNat 0,L:=⟨0,0,0,List.replicate p.Mutators.toNat 0⟩,
  Ws:=(List.range p.Workers.toNat).map (ZH p),Ms:=p.Regs.map wQ,D:=⟨0,0⟩}
theorem zwA {r n:Int} (h:0≤r) (h2:r≤n) (h3:n≤6):bit r&&& ~~~WN n=0#64:=by
 have:=zqU ⟨r.toNat,by omega⟩ ⟨n.toNat,by omega⟩ (by show r.toNat≤n.toNat;omega)
 simpa [Int.toNat_of_nonneg h,Int.toNat_of_nonneg (show 0≤n by omega)] using this
theorem zr4 {a b c:BitVec 64} (ha:a&&& ~~~c=0#64) (hb:b&&& ~~~c=0#64):(a|||b)&&& ~~~c=0#64:=by
 apply BitVec.eq_of_getLsbD_eq
 intro i hi
 have h1:=congrArg (fun x=>x.getLsbD i) ha
 have h2:=congrArg (fun x=>x.getLsbD i) hb
 simp only [BitVec.getLsbD_and,BitVec.getLsbD_or,BitVec.getLsbD_not,BitVec.getLsbD_zero,hi,decide_true,Bool.true_and] at h1 h2 ⊢
 revert h1 h2
 generalize a.getLsbD i=x
 generalize b.getLsbD i=y
 generalize c.getLsbD i=z
 cases x<;>cases y<;>cases z<;>decide
theorem zuH {c:BitVec 64} {l:List Int} (h: ∀o∈l,bit o&&& ~~~c=0#64): ∀(z:BitVec 64),z&&& ~~~c=0#64→l.foldl (fun s o=>s|||bit o) z&&& ~~~c=0#64:=by
 induction l with
 | nil=>intro z hz;exact hz
 | cons a l ih=>intro z hz;exact ih (fun o ho=>h o (List.mem_cons_of_mem _ ho)) _ (zr4 hz (h a (List.mem_cons_self ..)))
theorem ziK {p:zb} (h:zE p):YP p&&& ~~~WN (p.H.Objs.length:Int)=0#64:=by
 have hn:=h.n
 have key: ∀(L:List (List Int)) (z:BitVec 64),(∀r∈L,∀v∈r,0≤v∧v≤(p.H.Objs.length:Int))→z&&& ~~~WN (p.H.Objs.length:Int)=0#64→L.foldl (fun s l=>s|||zpi l) z&&& ~~~WN (p.H.Objs.length:Int)=0#64:=by
  intro L
  induction L with
  | nil=>intro z _ hz;exact hz
  | cons r L ih =>
   intro z hr hz
   refine ih _ (fun r' h'=>hr r' (List.mem_cons_of_mem _ h')) (zr4 hz (zuH (fun o ho=> ?_) _ (by simp)))
   have:=hr r (List.mem_cons_self ..) o ho
   exact zwA this.1 this.2 hn.2
 exact key _ _ (fun r hr=>(h.reg r hr).2) (zm3 h)
theorem ztP {a b c:BitVec 64} (h:a&&& ~~~b=0#64) (h2:b&&& ~~~c=0#64):a&&& ~~~c=0#64:=by
 apply BitVec.eq_of_getLsbD_eq
 intro i hi
 have h1:=congrArg (fun x=>x.getLsbD i) h
 have h2:=congrArg (fun x=>x.getLsbD i) h2
 simp only [BitVec.getLsbD_and,BitVec.getLsbD_not,BitVec.getLsbD_zero,hi,decide_true,Bool.true_and] at h1 h2 ⊢
 revert h1 h2
 generalize a.getLsbD i=x
 generalize b.getLsbD i=y
 generalize c.getLsbD i=z
 cases x<;>cases y<;>cases z<;>decide
theorem ztY: ∀n:Fin 7,WN (n.1:Int)&&& ~~~63#64=0#64:=by decide
theorem zix {p:zb} (h:zE p):YP p&&& ~~~63#64=0#64:=by
 have hn:=h.n
 refine ztP (ziK h) ?_
 exact ztY ⟨p.H.Objs.length,by omega⟩
theorem zu5: ∀(n:Fin 7) (t:Fin 64),BitVec.ofNat 64 t.1&&& ~~~WN (n.1:Int)=0#64→(Vs (BitVec.ofNat 64 t.1)).length≤n.1:=by decide +kernel
theorem zl4 {p:zb} (h:zE p):(Vs (YP p)).length≤p.H.Objs.length:=by
 have hn:=h.n
 obtain ⟨t,ht⟩:=zsw (zix h)
 have h2:=ziK h
 rw [ht] at h2 ⊢
 exact zu5 ⟨p.H.Objs.length,by omega⟩ t h2
theorem zka {p:zb} (h:zE p):(yV p).length≤p.H.Objs.length:=by
 have hb:=h.bin
 exact Nat.le_trans (zoz _ (by omega) _ _) (zl4 h)
theorem zlx {p:zb} (h:zE p):zaB p=some (yW p,()):=by
 have hw:=h.wk
 have hc:=h.cap
 have hm:=h.mt
 have hb:=h.bin
 have hn:=h.n
 have hmo:=h.most
 have hrl:=h.regs
 have hreg: ∀r∈p.Regs,r.length<1000000:=fun r hr=>by have:=(h.reg r hr).1;omega
 have hobj: ∀o∈p.H.Objs,o.length<1000000:=fun o ho=>by have:=(h.objs o ho).1;have:=h.slots;omega
 have hfl:=zka h
 have hgl:=zl4 h
 have hcl:=VJ p p.Workers.toNat
 have hcb:p.Workers.toNat*(p.Cap.toNat+2)≤3*5:=Nat.mul_le_mul (by omega) (by omega)
 have hbn:(zO p:Int)=p.Most+p.Workers+p.Mutators:=by unfold zO;omega
 have eb:zdY p=some ((zO p:Int),()):=by
  rw [zp7,yH (a:=p.Most+p.Workers) (by omega) (by omega),yH (by omega) (by omega),hbn]
 have hul:=zr5 (zO p)
 have ec:VU (Vs (YP p)) p.Bin=some (yV p):=by
  show zgo _ _=_
  unfold zgo yV
  have c1:(decide (1≤p.Bin)&&decide (p.Bin<1000000)&&decide (((Vs (YP p)).length:Int)<1000000))=true:=by simp<;>omega
  rw [c1];rfl
 have cut1:cut (xi (zO p)) 0 ((yV p).length:Int)=some ((xi (zO p)).take (yV p).length):=by
  unfold cut
  have:((yV p).length:Int)≤((xi (zO p)).length:Int):=by omega
  simp [this]
 have cut2:cut (xi (zO p)) ((yV p).length:Int) ((xi (zO p)).length:Int)=some ((xi (zO p)).drop (yV p).length):=by
  unfold cut
  have:((yV p).length:Int)≤((xi (zO p)).length:Int):=by omega
  simp [this]
 rw [zpT,zuM h]
 simp only [Option.bind_some,Bool.not_true,cond_false]
 rw [zuF (by omega) hreg]
 simp only [Option.bind_some,zwk,zvB hm.1 (show p.Mutators≤16 by omega)]
 rw [zwI (by omega) hobj]
 simp only [Option.bind_some]
 rw [zyI h]
 simp only [Option.bind_some,eb]
 have e3:(2+(zO p:Int)).toNat=2+zO p:=by omega
 rw [yH (a:=2+(zO p:Int)) (by omega) (by omega),zra (by omega) (by omega),e3,Option.bind_some,wD (l:=ZU p p.Workers.toNat++List.replicate (2+zO p) 0#64) (by simp<;>omega),Option.bind_some,zx5 (by omega)]
 dsimp only [Option.bind_some]
 rw [Int.toNat_natCast,zw5 (zix h),Option.bind_some,zeH,zq,if_neg (by omega),Option.bind_some,ec,Option.bind_some,zur _ _ (by simp<;>omega) (fun c hc'=>by have:=ziF _ _ _ _ hc';omega)]
 dsimp only [Option.bind_some]
 have e1:w64 ((([[]]++yV p:List (List Int)).length:Int)-1)=((yV p).length:Int):=by
  rw [yH (by simp<;>omega) (by simp<;>omega)];simp
 have e2:w64 (((xi (zO p)).length:Int)-((yV p).length:Int))=((zO p-(yV p).length:Nat):Int):=by
  rw [yH (by omega) (by omega)];omega
 rw [e1,e2,zra (by omega) (by omega),Int.toNat_natCast,Option.bind_some,wD (by simp<;>omega),Option.bind_some,zfw,Option.bind_some,zfT,Option.bind_some,cut1,Option.bind_some,zqQ (by simp<;>omega) (by simp<;>omega),Option.bind_some,zdL,Option.bind_some,Option.bind_some,cut2,Option.bind_some,zqQ (by rw [znV];simp<;>omega) (by simp<;>omega),Option.bind_some,decide_true,cond_true,zhc hm.1 (show p.Mutators<4294967296 by omega),Option.bind_some,zxX (by omega) hreg]
 rfl
end
end Go.Pe.G
namespace Go.Pe.G
open Go.Pe
noncomputable section
theorem zil (h:BitVec 64):yq h=((h.toNat%4294967296:Nat):Int):=by
 unfold yq
 have e:(h&&&4294967295#64).toNat=h.toNat%4294967296:=by
  rw [BitVec.toNat_and]
  exact Nat.and_two_pow_sub_one_eq_mod h.toNat 32
 rw [BitVec.toInt_eq_toNat_cond,e]
 omega
theorem zh8 (h:BitVec 64):0≤yq h∧yq h<4294967296:=by rw [zil];omega
theorem zbx (v:BitVec 64) {n:Int} (h:0≤n) (h2:n<4294967296):yq (yU v n)=n:=by
 rw [zil]
 unfold yU
 rw [BitVec.toNat_or,BitVec.toNat_and,BitVec.toNat_shiftLeft]
 have e1:(v.toNat <<< 32%2 ^ 64|||(BitVec.ofInt 64 n).toNat&&&(4294967295#64).toNat)%2 ^ 32=(v.toNat <<< 32%2 ^ 64)%2 ^ 32|||((BitVec.ofInt 64 n).toNat&&&(4294967295#64).toNat)%2 ^ 32:=Nat.or_mod_two_pow
 have e2:v.toNat <<< 32%2 ^ 64%2 ^ 32=0:=by rw [Nat.shiftLeft_eq];omega
 have e3:(BitVec.ofInt 64 n).toNat&&&(4294967295#64).toNat=n.toNat:=by
  have:(BitVec.ofInt 64 n).toNat=n.toNat:=by rw [BitVec.toNat_ofInt];omega
  rw [this]
  exact (Nat.and_two_pow_sub_one_eq_mod n.toNat 32).trans (Nat.mod_eq_of_lt (by omega))
 rw [show (4294967296:Nat)=2 ^ 32 from rfl,e1,e2,e3,Nat.zero_or,Nat.mod_eq_of_lt (by omega)]
 omega
theorem toInt_ofInt {n:Int} (h:0≤n) (h2:n<4294967296):(BitVec.ofInt 64 n).toInt=n:=by
 have e:(BitVec.ofInt 64 n).toNat=n.toNat:=by rw [BitVec.toNat_ofInt];omega
 rw [BitVec.toInt_eq_toNat_cond,e]
 omega
theorem Xp {m:List (BitVec 64)} {a b:Int} {v:BitVec 64}:ld (st m a v) b=if a=b∧0≤a∧a<m.length then v else ld m b:=by
 unfold ld st
 by_cases hb:0≤b
 ·rw [if_pos hb,if_pos hb]
  by_cases ha:0≤a
  ·rw [if_pos ha,List.getD_eq_getElem?_getD,List.getD_eq_getElem?_getD,List.getElem?_set]
   by_cases hab:a.toNat=b.toNat
   ·have e:a=b:=by omega
    subst e
    by_cases hl:a.toNat<m.length
    ·rw [if_pos rfl,if_pos hl,if_pos ⟨rfl,ha,by omega⟩];rfl
    ·rw [if_pos rfl,if_neg hl,if_neg (by omega),List.getElem?_eq_none (by omega)]
   ·rw [if_neg hab,if_neg (by omega)]
  ·rw [if_neg ha,if_neg (by omega)]
 ·rw [if_neg hb,if_neg hb,if_neg (by omega)]
theorem yo {m:List (BitVec 64)} {a b:Int} {v:BitVec 64} (h:a≠b):ld (st m a v) b=ld m b:=by
 rw [Xp,if_neg (fun h'=>h h'.1)]
theorem Zo {p:zb} (h:zE p):z7 p=p.Workers*(p.Cap+2)∧3≤z7 p∧z7 p≤15:=by
 have hw:=h.wk
 have hc:=h.cap
 unfold z7
 rw [xq (a:=p.Cap+2) (by omega) (by omega)]
 have hx:p.Workers=1∨p.Workers=2∨p.Workers=3:=by omega
 rcases hx with hx | hx | hx<;>rw [hx,xq (by omega) (by omega)]<;>omega
theorem wn {p:zb} (h:zE p):zD p=z7 p+1:=by
 have:=Zo h
 unfold zD
 rw [xq (by omega) (by omega)]
theorem Yh {p:zb} (h:zE p) {w:Int} (h1:1≤w) (h2:w≤p.Workers):zN p w=(w-1)*(p.Cap+2)∧0≤zN p w∧zN p w+p.Cap+2≤z7 p:=by
 have hw:=h.wk
 have hc:=h.cap
 have hf:=(Zo h).1
 unfold zN
 rw [xq (a:=p.Cap+2) (by omega) (by omega),xq (a:=w-1) (by omega) (by omega)]
 have hx:p.Workers=1∨p.Workers=2∨p.Workers=3:=by omega
 have hy:w=1∨w=2∨w=3:=by omega
 rw [hf]
 rcases hx with hx | hx | hx<;>rcases hy with hy | hy | hy<;>first | omega | (rw [hx,hy,xq (by omega) (by omega)]<;>omega)
theorem znK {p:zb} (h:zE p) {d:zh} {w:Int} (h1:1≤w) (h2:w≤p.Workers) (hb:d.Base=zN p w) (hc:d.Cap=p.Cap) (i:BitVec 64) :
  W2 d i=d.Base+2+((i.toNat%p.Cap.toNat:Nat):Int)∧d.Base+2≤W2 d i∧W2 d i<d.Base+2+p.Cap:=by
 have hcp:=h.cap
 have hd:=Yh h h1 h2
 have hf:=Zo h
 have hs:(WH d).toNat=p.Cap.toNat:=by
  unfold WH
  rw [hc,if_neg (by omega),BitVec.toNat_ofInt]
  omega
 have hlt:i.toNat%p.Cap.toNat<p.Cap.toNat:=Nat.mod_lt _ (by omega)
 have hm:(i%WH d).toInt=((i.toNat%p.Cap.toNat:Nat):Int):=by
  rw [BitVec.toInt_eq_toNat_cond,BitVec.toNat_umod,hs]
  omega
 unfold W2
 rw [hm,xq (a:=d.Base+2) (by omega) (by omega),xq (by omega) (by omega)]
 omega
structure SOk (p:zb) (nb:Nat) (s:za):Prop where
 P:s.P=p
 bins:s.Bins.length=nb
 nbk:1≤nb∧nb<1000
 mem:s.M.length<100000
 cF:yq (ld s.M (z7 p))<nb
 cE:yq (ld s.M (zD p))<nb
 cL: ∀a,zD p<a→0≤(ld s.M a).toInt∧(ld s.M a).toInt<nb
structure MOk (p:zb) (nb:Nat) (g:zC):Prop where
 who:g.Mode=1→1≤g.Who∧g.Who≤p.Workers
 d3:g.PC=3→g.D.Kind=1∧g.D.Base=zN p g.Who∧g.D.Cap=p.Cap∧g.Mode=1
 c5:g.PC=5→g.C.Kind=2∧g.C.Head=zD p∧g.C.Next=zD p∧(1≤g.C.PC→1≤yq g.C.H∧yq g.C.H<nb)∧(2≤g.C.PC→0≤g.C.Y∧g.C.Y<nb)
 b6:g.PC=6→1≤g.Bin∧g.Bin<nb
 c7:g.PC=7→g.C.Kind=1∧g.C.Head=z7 p∧g.C.Next=zD p∧(1≤g.C.X∧g.C.X<nb)∧(1≤g.C.PC→yq g.C.H<nb)
theorem SOk.gok {p:zb} {nb:Nat} {s:za} {g:zC} (h:zE p) (S:SOk p nb s) (M:MOk p nb g):GOk s g:=by
 have hc:=h.cap
 refine ⟨by have:=S.mem;omega,by have:=S.bins;have:=S.nbk;omega,fun h6=> ?_,fun h3=> ?_⟩
 ·have:=M.b6 h6;have:=S.bins;omega
 ·obtain ⟨a,b,c,_⟩:=M.d3 h3;exact ⟨a,by omega⟩
theorem SOk.low {p:zb} {nb:Nat} {s:za} (h:zE p) (S:SOk p nb s) {a:Int} (ha:a<z7 p) (v:BitVec 64):SOk p nb {s with M:=st s.M a v}:=by
 have he:=wn h
 exact ⟨S.P,S.bins,S.nbk,by simp only [Zl];exact S.mem,by simp only [yo (show a≠z7 p by omega)];exact S.cF,by simp only [yo (show a≠zD p by omega)];exact S.cE,fun b hb=>by
  simp only [yo (show a≠b by omega)];exact S.cL b hb⟩
theorem SOk.link {p:zb} {nb:Nat} {s:za} (h:zE p) (S:SOk p nb s) {a:Int} (ha:zD p<a) {v:BitVec 64} (hv:0≤v.toInt∧v.toInt<nb):SOk p nb {s with M:=st s.M a v}:=by
 have he:=wn h
 exact ⟨S.P,S.bins,S.nbk,by simp only [Zl];exact S.mem,by simp only [yo (show a≠z7 p by omega)];exact S.cF,by simp only [yo (show a≠zD p by omega)];exact S.cE,fun b hb=>by
  simp only [Xp]
  split
  ·exact hv
  ·exact S.cL b hb⟩
theorem SOk.head {p:zb} {nb:Nat} {s:za} (h:zE p) (S:SOk p nb s) {a:Int} (ha:a=z7 p∨a=zD p) {v:BitVec 64} (hv:yq v<nb):SOk p nb {s with M:=st s.M a v}:=by
 have he:=wn h
 refine ⟨S.P,S.bins,S.nbk,by simp only [Zl];exact S.mem,?_,?_,fun b hb=> ?_⟩
 ·simp only [Xp]
  split
  ·exact hv
  ·exact S.cF
 ·simp only [Xp]
  split
  ·exact hv
  ·exact S.cE
 ·simp only [yo (show a≠b by omega)];exact S.cL b hb
theorem SOk.swap {p:zb} {nb:Nat} {s:za} (h:zE p) (S:SOk p nb s) {a:Int} (ha:a=z7 p∨a=zD p) (x:BitVec 64) {v:BitVec 64} (hv:yq v<nb):SOk p nb {s with M:=(sw s.M a x v).1}:=by
 unfold sw
 split
 ·exact S.head h ha hv
 ·exact S
theorem zoe {p:zb} {nb:Nat} {s:za} (h:zE p) (S:SOk p nb s) {c:zB} {hd:Int} (hdd:hd=z7 p∨hd=zD p) (hk:c.Kind=2) (hh:c.Head=hd) (hn:c.Next=zD p)
  (h1:1≤c.PC→1≤yq c.H∧yq c.H<nb) (h2:2≤c.PC→0≤c.Y∧c.Y<nb) (ho:c.Out≠1) :
  SOk p nb {s with M:=(zk s.M c).1}∧(zk s.M c).2.Kind=2∧(zk s.M c).2.Head=hd∧(zk s.M c).2.Next=zD p ∧
  ((zk s.M c).2.Out≠1→(zk s.M c).2.Out≠2→(1≤(zk s.M c).2.PC→1≤yq (zk s.M c).2.H∧yq (zk s.M c).2.H<nb)∧(2≤(zk s.M c).2.PC→0≤(zk s.M c).2.Y∧(zk s.M c).2.Y<nb)) ∧
  ((zk s.M c).2.Out=1→1≤(zk s.M c).2.X∧(zk s.M c).2.X<nb):=by
 have hnb:=S.nbk
 have hE:=wn h
 have hF:=Zo h
 unfold zk
 split
 ·exact ⟨S,hk,hh,hn,fun _ _=>⟨h1,h2⟩,fun e=>absurd e ho⟩
 ·split
  ·rw [hh]
   have n1:=zh8 (ld s.M hd)
   have n2:yq (ld s.M hd)<nb:=by
    rcases hdd with e | e<;>rw [e]
    ·exact S.cF
    ·exact S.cE
   split
   ·exact ⟨S,hk,rfl,hn,fun _ h=>absurd rfl h,fun e=>by cases e⟩
   ·rename_i hne
    refine ⟨S,hk,rfl,hn,fun _ _=>⟨fun _=>⟨?_,n2⟩,fun e=>absurd e (by dsimp only;omega)⟩,fun e=>absurd e ho⟩
    have:yq (ld s.M hd)≠0:=fun e=>hne ⟨hk,e⟩
    dsimp only
    omega
  ·split
   ·try rw [if_pos hk]
    have hpc:1≤c.PC:=by omega
    have n1:=h1 hpc
    refine ⟨S,hk,hh,hn,fun _ _=>⟨fun _=>n1,fun _=> ?_⟩,fun e=>absurd e ho⟩
    dsimp only
    rw [hn,xq (by omega) (by omega)]
    exact S.cL _ (by omega)
   ·rename_i g1 g2 g3
    have hpc:c.PC=2:=by omega
    have n1:=h1 (by omega)
    have n2:=h2 (by omega)
    simp only [if_pos hk]
    refine ⟨S.swap h (by rw [hh];exact hdd) _ (by rw [zbx _ n2.1 (by omega)];exact n2.2),?_⟩
    split
    ·exact ⟨hk,hh,hn,fun e=>absurd rfl e,fun _=>n1⟩
    ·exact ⟨hk,hh,hn,fun _ _=>⟨fun e=>absurd e (by dsimp only;omega),fun e=>absurd e (by dsimp only;omega)⟩,fun e=>absurd e ho⟩
theorem zp0 {p:zb} {nb:Nat} {s:za} (h:zE p) (S:SOk p nb s) {c:zB} {hd:Int} (hdd:hd=z7 p∨hd=zD p) (hk:c.Kind=1) (hh:c.Head=hd) (hn:c.Next=zD p) (hx:1≤c.X∧c.X<nb)
  (h1:1≤c.PC→yq c.H<nb) :
  SOk p nb {s with M:=(zk s.M c).1}∧(zk s.M c).2.Kind=1∧(zk s.M c).2.Head=hd∧(zk s.M c).2.Next=zD p∧(1≤(zk s.M c).2.X∧(zk s.M c).2.X<nb) ∧
  (1≤(zk s.M c).2.PC→yq (zk s.M c).2.H<nb):=by
 have hnb:=S.nbk
 have hE:=wn h
 have hF:=Zo h
 have hk2: ¬c.Kind=2:=by omega
 unfold zk
 split
 ·exact ⟨S,hk,hh,hn,hx,h1⟩
 ·split
  ·rw [if_neg (fun e=>hk2 e.1),hh]
   exact ⟨S,hk,rfl,hn,hx,fun _=>hdd.elim (fun e=>by dsimp only;rw [e];exact S.cF) (fun e=>by dsimp only;rw [e];exact S.cE)⟩
  ·split
   ·try rw [if_neg hk2]
    have hpc:1≤c.PC:=by omega
    have n1:=h1 hpc
    have n2:=zh8 c.H
    refine ⟨?_,hk,hh,hn,hx,fun _=>n1⟩
    dsimp only
    rw [hn,xq (by omega) (by omega)]
    exact S.link h (by omega) (by rw [toInt_ofInt (by omega) (by omega)];omega)
   ·have n1:=h1 (by omega)
    simp only [if_neg hk2]
    refine ⟨S.swap h (by rw [hh];exact hdd) _ (by rw [zbx _ (by omega) (by omega)];exact hx.2),?_⟩
    split
    ·exact ⟨hk,hh,hn,hx,fun _=>n1⟩
    ·exact ⟨hk,hh,hn,hx,fun _=>n1⟩
theorem MOk.ask {p:zb} {nb:Nat} {g:zC} (hw:g.Mode=1→1≤g.Who∧g.Who≤p.Workers):MOk p nb (zgW p g) :=
 ⟨hw,fun e=>(by cases e),fun _=>⟨rfl,rfl,rfl,fun e=>absurd e (show ¬(1:Int)≤0 by decide),fun e=>absurd e (show ¬(2:Int)≤0 by decide)⟩,fun e=>(by cases e),fun e=>(by cases e)⟩
theorem zmx {p:zb} {nb:Nat} {s:za} {g:zC} (h:zE p) (S:SOk p nb s) (M:MOk p nb g) (hout:g.PC=5→g.C.Out≠1):SOk p nb (zu s g).1∧MOk p nb (zu s g).2∧((zu s g).2.PC=5→(zu s g).2.C.Out≠1):=by
 have hP:=S.P
 unfold zu
 split
 ·exact ⟨S,M,hout⟩
 split
 ·rename_i h7
  obtain ⟨a1,a2,a3,a4,a5⟩:=M.c7 h7
  obtain ⟨b1,b2,b3,b4,b5,b6⟩:=zp0 h S (.inl rfl) a1 a2 a3 a4 a5
  unfold za6
  refine ⟨b1,?_,?_⟩
  ·dsimp only
   split<;>exact ⟨M.who,fun e=>(by dsimp only at e;omega),fun e=>(by dsimp only at e;omega),fun e=>(by dsimp only at e;omega),fun _=>⟨b2,b3,b4,b5,b6⟩⟩
  ·dsimp only
   split<;>exact fun e=>by dsimp only at e;omega
 split
 ·rename_i h6
  obtain ⟨a1,a2⟩:=M.b6 h6
  unfold zoT
  refine ⟨⟨hP,by simp only [List.length_set];exact S.bins,S.nbk,S.mem,S.cF,S.cE,S.cL⟩,⟨M.who,fun e=>(by cases e),fun e=>(by cases e),fun e=>(by cases e),fun _=>⟨rfl,by rw [hP],by rw [hP],⟨a1,a2⟩,fun e=>absurd e (show ¬(1:Int)≤0 by decide)⟩⟩,fun e=>by cases e⟩
 split
 ·rename_i h5
  obtain ⟨a1,a2,a3,a4,a5⟩:=M.c5 h5
  obtain ⟨b1,b2,b3,b4,b5,b6⟩:=zoe h S (.inr rfl) a1 a2 a3 a4 a5 (hout h5)
  unfold zhV
  refine ⟨b1,?_,?_⟩
  ·dsimp only
   split
   ·rename_i e1
    exact ⟨M.who,fun e=>(by cases e),fun e=>(by cases e),fun _=>b6 e1,fun e=>(by cases e)⟩
   ·split
    ·rw [hP];exact MOk.ask M.who
    ·rename_i e1 e2
     exact ⟨M.who,fun e=>(by dsimp only at e;omega),fun _=>⟨b2,b3,b4,b5 e1 e2⟩,fun e=>(by dsimp only at e;omega),fun e=>(by dsimp only at e;omega)⟩
  ·dsimp only
   split
   ·exact fun e=>by cases e
   ·split
    ·exact fun _ e=>by cases e
    ·rename_i e1 e2;exact fun _=>e1
 split
 ·rw [hP]
  exact ⟨⟨rfl,S.bins,S.nbk,S.mem,S.cF,S.cE,S.cL⟩,MOk.ask M.who,fun _ e=>by cases e⟩
 split
 ·rename_i h3
  obtain ⟨a1,a2,a3,a4⟩:=M.d3 h3
  have hw:=M.who a4
  obtain ⟨d1,d2,d3⟩:=Yh h hw.1 hw.2
  have hc:=h.cap
  have hf:=Zo h
  have hs:SOk p nb {s with M:=(yP s.M g.D).1}:=by
   unfold yP
   split
   ·exact S
   split
   ·exact S
   split
   ·exact S
   split
   ·have:=znK h hw.1 hw.2 a2 a3 g.D.B
    exact S.low h (by omega) _
   ·dsimp only
    rw [xq (by omega) (by omega)]
    exact S.low h (by omega) _
  have hd:(yP s.M g.D).2.Kind=1∧(yP s.M g.D).2.Base=zN p g.Who∧(yP s.M g.D).2.Cap=p.Cap:=by
   unfold yP
   split
   ·exact ⟨a1,a2,a3⟩
   split
   ·exact ⟨a1,a2,a3⟩
   split
   ·dsimp only
    split<;>exact ⟨a1,a2,a3⟩
   split<;>exact ⟨a1,a2,a3⟩
  unfold zij
  refine ⟨hs,?_,?_⟩
  ·dsimp only
   split
   ·exact ⟨M.who,fun _=>⟨hd.1,hd.2.1,hd.2.2,a4⟩,fun e=>(by dsimp only at e;omega),fun e=>(by dsimp only at e;omega),fun e=>(by dsimp only at e;omega)⟩
   ·split
    ·rw [hP];exact MOk.ask M.who
    ·exact ⟨M.who,fun _=>⟨hd.1,hd.2.1,hd.2.2,a4⟩,fun e=>(by dsimp only at e;omega),fun e=>(by dsimp only at e;omega),fun e=>(by dsimp only at e;omega)⟩
  ·dsimp only
   split
   ·exact fun e=>by dsimp only at e;omega
   ·split
    ·exact fun _ e=>by cases e
    ·exact fun e=>by dsimp only at e;omega
 split
 ·rename_i h2
  exact ⟨⟨hP,S.bins,S.nbk,S.mem,S.cF,S.cE,S.cL⟩,⟨M.who,fun e=>(by dsimp only at e;omega),fun e=>(by dsimp only at e;omega),fun e=>(by dsimp only at e;omega),fun e=>(by dsimp only at e;omega)⟩,fun e=>by dsimp only at e;omega⟩
 split
 ·unfold zh1
  refine ⟨⟨hP,S.bins,S.nbk,S.mem,S.cF,S.cE,S.cL⟩,?_,?_⟩
  ·dsimp only
   split
   ·exact ⟨M.who,fun e=>(by cases e),fun e=>(by cases e),fun e=>(by cases e),fun e=>(by cases e)⟩
   split
   ·exact ⟨M.who,fun _=>⟨rfl,by rw [hP],by rw [hP],by assumption⟩,fun e=>(by cases e),fun e=>(by cases e),fun e=>(by cases e)⟩
   split
   ·exact ⟨M.who,fun e=>(by cases e),fun e=>(by cases e),fun e=>(by cases e),fun e=>(by cases e)⟩
   ·rw [hP];exact MOk.ask M.who
  ·dsimp only
   split
   ·exact fun e=>by cases e
   split
   ·exact fun e=>by cases e
   split
   ·exact fun e=>by cases e
   ·exact fun _ e=>by cases e
 ·exact ⟨⟨hP,S.bins,S.nbk,S.mem,S.cF,S.cE,S.cL⟩,⟨M.who,fun e=>(by cases e),fun e=>(by cases e),fun e=>(by cases e),fun e=>(by cases e)⟩,fun e=>by cases e⟩
theorem Vy (s:za) (g:zC):(zu s g).2.Obj=g.Obj∧(zu s g).2.Who=g.Who∧(zu s g).2.Mode=g.Mode:=by
 unfold zu
 split
 ·exact ⟨rfl,rfl,rfl⟩
 split
 ·unfold za6;dsimp only;split<;>exact ⟨rfl,rfl,rfl⟩
 split
 ·exact ⟨rfl,rfl,rfl⟩
 split
 ·unfold zhV;dsimp only
  split
  ·exact ⟨rfl,rfl,rfl⟩
  ·split<;>exact ⟨rfl,rfl,rfl⟩
 split
 ·exact ⟨rfl,rfl,rfl⟩
 split
 ·unfold zij;dsimp only
  split
  ·exact ⟨rfl,rfl,rfl⟩
  ·split<;>exact ⟨rfl,rfl,rfl⟩
 split
 ·exact ⟨rfl,rfl,rfl⟩
 split
 ·unfold zh1;dsimp only
  split
  ·exact ⟨rfl,rfl,rfl⟩
  split
  ·exact ⟨rfl,rfl,rfl⟩
  split<;>exact ⟨rfl,rfl,rfl⟩
 ·exact ⟨rfl,rfl,rfl⟩
end
end Go.Pe.G
namespace Go.Pe.G
open Go.Pe
noncomputable section
def OkV (nb:Nat) (v:BitVec 64):Prop:=yq v<nb∧0≤v.toInt∧v.toInt<nb
theorem zsb {nb:Nat} (h:1≤nb):OkV nb 0#64:=by
 refine ⟨by rw [zil];simp;omega,by simp,by simp;omega⟩
theorem zpC {nb:Nat} {b:Int} (h:0≤b) (h2:b<nb) (h3:nb<1000):OkV nb (BitVec.ofInt 64 b):=by
 have e:(BitVec.ofInt 64 b).toNat=b.toNat:=by rw [BitVec.toNat_ofInt];omega
 refine ⟨by rw [zil,e];omega,?_⟩
 rw [toInt_ofInt h (by omega)]
 omega
theorem zqZ {b:Int} (h:0≤b) (h2:b<4294967296):yU 0#64 b=BitVec.ofInt 64 b:=by
 have e:(BitVec.ofInt 64 b).toNat=b.toNat:=by rw [BitVec.toNat_ofInt];omega
 apply BitVec.eq_of_toNat_eq
 unfold yU
 rw [BitVec.toNat_or,BitVec.toNat_and,e]
 have:b.toNat&&&(4294967295#64).toNat=b.toNat:=(Nat.and_two_pow_sub_one_eq_mod b.toNat 32).trans (Nat.mod_eq_of_lt (by omega))
 rw [this]
 simp
def Y7 (F:Int) (nb:Nat) (m:List (BitVec 64)):Prop:=∀a,F≤a→OkV nb (ld m a)
theorem Y7.st {F:Int} {nb:Nat} {m:List (BitVec 64)} (h:Y7 F nb m) (a:Int) {v:BitVec 64} (hv:OkV nb v):Y7 F nb (st m a v):=fun b hb=>by
 rw [Xp]
 split
 ·exact hv
 ·exact h b hb
theorem Y7.links {F:Int} {nb:Nat} (h1:1≤nb) (h3:nb<1000): ∀(l:List Int) (m:List (BitVec 64)) (n:Int),(∀b∈l,0≤b∧b<nb)→Y7 F nb m→Y7 F nb (links m n l)
 | [],m,n,_,h=>h
 | [a],m,n,_,h=>h.st _ (zsb h1)
 | a::b::l,m,n,hb,h=>Y7.links h1 h3 (b::l) _ n (fun x hx=>hb x (List.mem_cons_of_mem _ hx)) (h.st _ (zpC (hb b (by simp)).1 (hb b (by simp)).2 h3))
theorem Y7.lay {F:Int} {nb:Nat} (h1:1≤nb) (h3:nb<1000) {l:List Int} {m:List (BitVec 64)} {hd n:Int} (hb: ∀b∈l,0≤b∧b<nb) (h:Y7 F nb m):Y7 F nb (za1 m hd n l):=by
 unfold za1
 refine (Y7.links h1 h3 l m n hb h).st _ ?_
 cases l with
 | nil=>rw [List.headD_nil,zqZ (by omega) (by omega)];exact zpC (by omega) (by omega) h3
 | cons a r =>
  have:=hb a (by simp)
  rw [List.headD_cons,zqZ this.1 (by omega)]
  exact zpC this.1 this.2 h3
theorem zc9 {k:Nat} {b:Int} (h:b∈xi k):1≤b∧b≤k:=by
 unfold xi at h
 obtain ⟨i,hi,rfl⟩:=List.mem_map.1 h
 have:=List.mem_range.1 hi
 omega
theorem zbf {p:zb} (h:zE p):(zO p:Int)=p.Most+p.Workers+p.Mutators∧2≤zO p∧zO p≤14:=by
 have:=h.most
 have:=h.n
 have:=h.wk
 have:=h.mt
 unfold zO
 omega
theorem zuh {p:zb} (h:zE p):SOk p (zO p+1) (yW p):=by
 have hb:=zbf h
 have hf:=zka h
 have hn:=h.n
 have hw:=h.wk
 have hc:=h.cap
 have hmo:=h.most
 have hF:=Zo h
 have hE:=wn h
 have hcl:=VJ p p.Workers.toNat
 have hfe:z7 p=((p.Workers.toNat*(p.Cap.toNat+2):Nat):Int):=by
  rw [hF.1]
  have e1:p.Workers=((p.Workers.toNat:Nat):Int):=by omega
  have e2:p.Cap+2=((p.Cap.toNat+2:Nat):Int):=by omega
  rw [e2,Int.natCast_mul]
  rw [←e1]
 have h0:Y7 (z7 p) (zO p+1) (ZU p p.Workers.toNat++List.replicate (2+zO p) 0#64):=by
  intro a ha
  have:ld (ZU p p.Workers.toNat++List.replicate (2+zO p) 0#64) a=0#64:=by
   unfold ld
   rw [if_pos (by omega),List.getD_eq_getElem?_getD,List.getElem?_append_right (by omega),List.getElem?_replicate]
   split<;>rfl
  rw [this]
  exact zsb (by omega)
 have h1:Y7 (z7 p) (zO p+1) (yW p).M:=by
  refine Y7.lay (by omega) (by omega) (fun b hb'=> ?_) (Y7.lay (by omega) (by omega) (fun b hb'=> ?_) h0)
  ·have:=zc9 (List.mem_of_mem_drop hb');omega
  ·have:=zc9 (List.mem_of_mem_take hb');omega
 have hlen:(yW p).M.length=p.Workers.toNat*(p.Cap.toNat+2)+(2+zO p):=by
  show (za1 _ _ _ _).length=_
  rw [znV,znV,List.length_append,hcl,List.length_replicate]
 refine ⟨rfl,?_,by omega,by rw [hlen];omega,(h1 _ (by omega)).1,(h1 _ (by omega)).1,fun a ha=>(h1 a (by omega)).2⟩
 have hd:(yW p).Bins.length=1+(yV p).length+(zO p-(yV p).length):=by
  show ([[]]++yV p++List.replicate (zO p-(yV p).length) ([]:List Int)).length=_
  rw [List.length_append,List.length_append,List.length_replicate];rfl
 have h2:=hb.1
 have hmt:=h.mt
 rw [hd]
 omega
def Ym (mode obj who:Int):zC:=⟨0,mode,obj,who,⟨0,0,0,0,0#64,0#64,0,0⟩,⟨0,0,0,0,0#64,0,0,0⟩,0,0⟩
theorem zoO (a b c:Int):zb6 a b c=some (Ym a b c,()):=by rw [zpj];rfl
end
end Go.Pe.G
namespace Go.Pe.G
open Go.Pe
noncomputable section
structure Xo (s:za):Prop where
 m:s.M.length<1000000
 bins:s.Bins.length<1000000
 bin: ∀x∈s.Bins,x.length<1000000
 acks:s.Acks.length<1000000
 bal:s.L.Bal.length<1000000
 ws:s.Ws.length<1000000
 w: ∀x∈s.Ws,x.Batch.length<1000000
 ms:s.Ms.length<1000000
 mu: ∀x∈s.Ms,x.Regs.length<1000000∧x.Buf.length<1000000∧x.Batch.length<1000000
 objs:s.H.Objs.length<1000000
 obj: ∀x∈s.H.Objs,x.length<1000000
 pobjs:s.P.H.Objs.length<1000000
 pobj: ∀x∈s.P.H.Objs,x.length<1000000
 regs:s.P.Regs.length<1000000
 reg: ∀x∈s.P.Regs,x.length<1000000
 progs:s.P.Progs.length<1000000
 prog: ∀x∈s.P.Progs,x.length<1000000
 picks:s.P.Picks.length<1000000
theorem UW (m:List (BitVec 64)) (c:zB):(zk m c).1.length=m.length:=by
 unfold zk sw
 split
 ·rfl
 split
 ·rfl
 split
 ·split<;>simp [Zl]
 ·dsimp only;split<;>simp [Zl]
theorem zfF (m:List (BitVec 64)) (d:zh):(yP m d).1.length=m.length:=by
 unfold yP
 split
 ·rfl
 split
 ·rfl
 split
 ·rfl
 split<;>simp [Zl]
theorem zfn (s:za) (g:zC): ∃m b t w f,(zu s g).1={s with M:=m,Bins:=b,T:=t,Work:=w,Flag:=f}∧m.length=s.M.length∧b.length=s.Bins.length ∧
  (∀x∈b,x∈s.Bins∨x=[g.Obj])∧(t=s.T∨t=(uA s.T g.Obj).1)∧(w=s.Work∨w=wc (s.Work+1)∨w=wc (s.Work-1)):=by
 unfold zu
 split
 ·exact ⟨s.M,s.Bins,s.T,s.Work,s.Flag,rfl,rfl,rfl,fun x h=> .inl h,.inl rfl,.inl rfl⟩
 split
 ·exact ⟨_,s.Bins,s.T,s.Work,s.Flag,rfl,UW _ _,rfl,fun x h=> .inl h,.inl rfl,.inl rfl⟩
 split
 ·refine ⟨s.M,_,s.T,s.Work,s.Flag,rfl,rfl,by simp,fun x h=> ?_,.inl rfl,.inl rfl⟩
  rcases List.mem_or_eq_of_mem_set h with h | h
  ·exact .inl h
  ·exact .inr h
 split
 ·exact ⟨_,s.Bins,s.T,s.Work,s.Flag,rfl,UW _ _,rfl,fun x h=> .inl h,.inl rfl,.inl rfl⟩
 split
 ·exact ⟨s.M,s.Bins,s.T,s.Work,true,rfl,rfl,rfl,fun x h=> .inl h,.inl rfl,.inl rfl⟩
 split
 ·exact ⟨_,s.Bins,s.T,s.Work,s.Flag,rfl,zfF _ _,rfl,fun x h=> .inl h,.inl rfl,.inl rfl⟩
 split
 ·exact ⟨s.M,s.Bins,s.T,_,s.Flag,rfl,rfl,rfl,fun x h=> .inl h,.inl rfl,.inr (.inr rfl)⟩
 split
 ·exact ⟨s.M,s.Bins,_,s.Work,s.Flag,rfl,rfl,rfl,fun x h=> .inl h,.inr rfl,.inl rfl⟩
 ·exact ⟨s.M,s.Bins,s.T,_,s.Flag,rfl,rfl,rfl,fun x h=> .inl h,.inl rfl,.inr (.inl rfl)⟩
theorem zvZ {p:zb} (h:zE p):Xo (yW p):=by
 have S:=zuh h
 have hb:=zbf h
 have hg:=zl4 h
 have hn:=h.n
 have hm:=h.mt
 have hw:=h.wk
 have hs:=h.slots
 have hrl:=h.regs
 have hpl:=h.progs
 have hobj: ∀o∈p.H.Objs,o.length<1000000:=fun o ho=>by have:=(h.objs o ho).1;omega
 have hreg: ∀r∈p.Regs,r.length<1000000:=fun r hr=>by have:=(h.reg r hr).1;omega
 refine ⟨by have:=S.mem;omega,by rw [S.bins];omega,fun x hx=> ?_,?_,?_,?_,fun x hx=> ?_,?_,fun x hx=> ?_,by show p.H.Objs.length<_;omega,hobj,by show p.H.Objs.length<_;omega,hobj,by show p.Regs.length<_;omega,hreg,by show p.Progs.length<_;omega,fun x hx=> ?_,?_⟩
 ·have hx:x∈[[]]++yV p++List.replicate (zO p-(yV p).length) []:=hx
  rcases List.mem_append.1 hx with hx | hx
  ·rcases List.mem_append.1 hx with hx | hx
   ·simp at hx;subst hx;simp
   ·have:=ziF _ _ _ _ hx;omega
  ·have:=(List.mem_replicate.1 hx).2;subst this;simp
 ·show (List.replicate p.Mutators.toNat (0:Int)).length<_;simp;omega
 ·show (List.replicate p.Mutators.toNat (0:Int)).length<_;simp;omega
 ·show ((List.range p.Workers.toNat).map (ZH p)).length<_;simp;omega
 ·have hx:x∈(List.range p.Workers.toNat).map (ZH p):=hx
  obtain ⟨i,_,rfl⟩:=List.mem_map.1 hx
  simp [ZH]
 ·show (p.Regs.map wQ).length<_;simp;omega
 ·have hx:x∈p.Regs.map wQ:=hx
  obtain ⟨r,hr,rfl⟩:=List.mem_map.1 hx
  exact ⟨hreg r hr,by simp [wQ],by simp [wQ]⟩
 ·obtain ⟨i,hi⟩:=List.getElem?_of_mem hx
  have hlt:=(List.getElem?_eq_some_iff.1 hi).1
  have:=(h.prog i _ x (List.getElem?_eq_getElem (show i<p.Regs.length from (show p.Progs.length=p.Regs.length by omega)▸hlt)) hi).1
  omega
 ·show p.Picks.length<_;rw [h.picks];simp
end
end Go.Pe.G
namespace Go.Pe.G
open Go.Pe
noncomputable section
theorem X4 {α B C:Type} {f:List α×List α×Int×Int×Unit→Option (xu (List α×List α×Int×Int×Unit) B C)} {l:List α} {b:B} (hl:l.length<1000000)
  (h1: ∀(i:Nat) (x:α),l[i]? =some x→f (l,l,(l.length:Int),(i:Int),())=some (.again (l,l,(l.length:Int),((i+1:Nat):Int),())))
  (h2:f (l,l,(l.length:Int),(l.length:Int),())=some (.brk b)):yA f (l,l,(l.length:Int),0,())=some (.brk b):=by
 refine (Zk (f:=f) (fun a=>∃i:Nat,a=(l,l,(l.length:Int),(i:Int),())∧i≤l.length) (fun a=>l.length-a.2.2.2.1.toNat) (fun o=>o= .brk b) ?_ (l,l,(l.length:Int),0,()) ⟨0,rfl,by omega⟩ (w6 (by dsimp only;omega))).elim fun o h=> ?_
 rotate_left
 ·rw [h.1,h.2]
 ·rintro _ ⟨i,rfl,hi⟩
  rcases Nat.lt_or_ge i l.length with hlt | hge
  ·refine ⟨_,h1 i _ (List.getElem?_eq_getElem hlt),⟨i+1,rfl,hlt⟩,?_⟩
   show l.length-((i+1:Nat):Int).toNat<l.length-(i:Int).toNat
   omega
  ·have:i=l.length:=by omega
   subst this
   exact ⟨_,h2,rfl⟩
theorem wx {l:List (Int)} (hl:l.length<1000000):yh l l=some (true,()):=by
 rw [zff,yL,if_pos rfl,X4 (b:=()) hl (fun i x hx=> ?_) (by rw [WA];simp)]
 ·rfl
 ·have hlt:=ug hx
  rw [WA,zq,if_pos hlt,wv hx,Option.bind_some,Option.bind_some,xl (by omega)]
  simp
theorem zbg {l:List (BitVec 64)} (hl:l.length<1000000):Zu l l=some (true,()):=by
 rw [zbe,yL,if_pos rfl,X4 (b:=()) hl (fun i x hx=> ?_) (by rw [Z5];simp)]
 ·rfl
 ·have hlt:=ug hx
  rw [Z5,zq,if_pos hlt,wv hx,Option.bind_some,Option.bind_some,xl (by omega)]
  simp
theorem zcB {l:List (Int)} (hl:l.length<1000000):ZS l l=some (true,()):=by
 rw [zb7,yL,if_pos rfl,X4 (b:=()) hl (fun i x hx=> ?_) (by rw [YO];simp)]
 ·rfl
 ·have hlt:=ug hx
  rw [YO,zq,if_pos hlt,wv hx,Option.bind_some,Option.bind_some,xl (by omega)]
  simp
theorem zae {l:List (zi)} (hl:l.length<1000000):uW l l=some (true,()):=by
 rw [zah,yL,if_pos rfl,X4 (b:=()) hl (fun i x hx=> ?_) (by rw [ZN];simp)]
 ·rfl
 ·have hlt:=ug hx
  rw [ZN,zq,if_pos hlt,wv hx,Option.bind_some,Option.bind_some,xl (by omega)]
  simp
theorem V9 {l:List (zl)} (hl:l.length<1000000):vZ l l=some (true,()):=by
 rw [Ub,yL,if_pos rfl,X4 (b:=()) hl (fun i x hx=> ?_) (by rw [u0];simp)]
 ·rfl
 ·have hlt:=ug hx
  rw [u0,zq,if_pos hlt,wv hx,Option.bind_some,Option.bind_some,xl (by omega)]
  simp
theorem wJ {l:List (List Int)} (hl:l.length<1000000) (he: ∀x∈l,x.length<1000000):zx l l=some (true,()):=by
 rw [uc,yL,if_pos rfl,X4 (b:=()) hl (fun i x hx=> ?_) (by rw [xn];simp)]
 ·rfl
 ·have hlt:=ug hx
  rw [xn,zq,if_pos hlt,wv hx,Option.bind_some,Option.bind_some,wx (he x (List.mem_of_getElem? hx)),Option.bind_some,xl (by omega)]
  simp
theorem Zq {l:List (List zi)} (hl:l.length<1000000) (he: ∀x∈l,x.length<1000000):ya l l=some (true,()):=by
 rw [wu,yL,if_pos rfl,X4 (b:=()) hl (fun i x hx=> ?_) (by rw [yF];simp)]
 ·rfl
 ·have hlt:=ug hx
  rw [yF,zq,if_pos hlt,wv hx,Option.bind_some,Option.bind_some,zae (he x (List.mem_of_getElem? hx)),Option.bind_some,xl (by omega)]
  simp
theorem zt4 {w:zg} (h:w.Batch.length<1000000):V8 w w=some (true,()):=by
 rw [zi5,wx h];simp
theorem zr1 {m:zc} (h:m.Regs.length<1000000∧m.Buf.length<1000000∧m.Batch.length<1000000):VK m m=some (true,()):=by
 rw [zhL,wx h.1,wx h.2.1,wx h.2.2,zfm];simp
theorem vu {l:List (zg)} (hl:l.length<1000000) (he: ∀x∈l,x.Batch.length<1000000):z3 l l=some (true,()):=by
 rw [wb,yL,if_pos rfl,X4 (b:=()) hl (fun i x hx=> ?_) (by rw [yy];simp)]
 ·rfl
 ·have hlt:=ug hx
  rw [yy,zq,if_pos hlt,wv hx,Option.bind_some,Option.bind_some,zt4 (he x (List.mem_of_getElem? hx)),Option.bind_some,xl (by omega)]
  simp
theorem vb {l:List (zc)} (hl:l.length<1000000) (he: ∀x∈l,x.Regs.length<1000000∧x.Buf.length<1000000∧x.Batch.length<1000000):zR l l=some (true,()):=by
 rw [xF,yL,if_pos rfl,X4 (b:=()) hl (fun i x hx=> ?_) (by rw [yu];simp)]
 ·rfl
 ·have hlt:=ug hx
  rw [yu,zq,if_pos hlt,wv hx,Option.bind_some,Option.bind_some,zr1 (he x (List.mem_of_getElem? hx)),Option.bind_some,xl (by omega)]
  simp
theorem zk7 {h:zt} (h1:h.Objs.length<1000000) (h2: ∀x∈h.Objs,x.length<1000000):uo h h=some (true,()):=by
 rw [zpY,wJ h1 h2];simp
theorem zvA {s:za} (h:Xo s):zgf s s=some (true,()):=by
 have hp:ZO s.P s.P=some (true,()):=by
  rw [zqk,zis,zk7 h.pobjs h.pobj,wJ h.regs h.reg,Zq h.progs h.prog,V9 h.picks]
  simp
 have hl:uv s.L s.L=some (true,()):=by
  rw [znR,zcB h.bal];simp
 have hm:YF s.M s.M=some (true,()):=by
  rw [zrx,zbg h.m];rfl
 rw [zpr,hp,zk7 h.objs h.obj,hm,wJ h.bins h.bin,wx h.acks,hl,vu h.ws h.w,vb h.ms h.mu]
 simp
end
end Go.Pe.G
namespace Go.Pe.G
open Go.Pe
noncomputable section
def goF {S:Type} (g:Nat→S→S):Nat→Nat→S→S
 | _,0,s=>s
 | i,k+1,s=>goF g (i+1) k (g i s)
theorem zq3 {S:Type} {g:Nat→S→S} {Inv:S→Prop} (hg: ∀i s,Inv s→Inv (g i s)): ∀(k i:Nat) (s:S),Inv s→Inv (goF g i k s)
 | 0,_,_,h=>h
 | k+1,i,s,h=>zq3 hg k (i+1) _ (hg i s h)
theorem zpX {S σ B C:Type} {f:σ→Option (xu σ B C)} (A:Int→S→σ) (b:S→B) (n:Nat) (hn:n<1000000) (g:Nat→S→S) (Inv:S→Prop) (hg: ∀i s,Inv s→Inv (g i s))
  (h1: ∀(i:Nat) s,i<n→Inv s→f (A (i:Int) s)=some (.again (A ((i+1:Nat):Int) (g i s)))) (h2: ∀s,Inv s→f (A (n:Int) s)=some (.brk (b s))) {s:S} (hs:Inv s) :
  yA f (A 0 s)=some (.brk (b (goF g 0 n s))):=by
 have key: ∀(k i:Nat) (s:S),n-i=k→i≤n→Inv s→∀m,k<m→uY f m (A (i:Int) s)=some (.brk (b (goF g i k s))):=by
  intro k
  induction k with
  | zero =>
   intro i s hk hi hs m hm
   have:i=n:=by omega
   subst this
   obtain ⟨m,rfl⟩: ∃x,m=x+1:=⟨m-1,by omega⟩
   simp only [uY]
   rw [h2 s hs];rfl
  | succ k ih =>
   intro i s hk hi hs m hm
   obtain ⟨m,rfl⟩: ∃x,m=x+1:=⟨m-1,by omega⟩
   simp only [uY]
   rw [h1 i s (by omega) hs,Option.bind_some]
   exact ih (i+1) _ (by omega) (by omega) (hg i s hs) m (by omega)
 have:=key n 0 s (by omega) (by omega) hs YW (w6 (by omega))
 rw [UI]
 exact this
end
end Go.Pe.G
namespace Go.Pe.G
open Go.Pe
noncomputable section
def zhQ (m:List (BitVec 64)) (d:zh):List (BitVec 64)×zh :=
 if d.PC<0∨7≤d.PC then (m,d)
 else if d.PC=0 then (m,{d with B:=ld m (wc (d.Base+1)),PC:=1})
 else if d.PC=1 then (st m (wc (d.Base+1)) (d.B-1#64),{d with PC:=2})
 else if d.PC=2 then (m,{d with T:=ld m d.Base,PC:=if 0<(ld m d.Base-(d.B-1#64)).toInt then 5 else 3})
 else if d.PC=3 then (m,{d with X:=(ld m (W2 d (d.B-1#64))).toInt,PC:=4,Out:=if d.T=d.B-1#64 then d.Out else 1})
 else if d.PC=4 then ((sw m d.Base d.T (d.T+1#64)).1,{d with PC:=if (sw m d.Base d.T (d.T+1#64)).2 then 6 else 5})
 else if d.PC=5 then (st m (wc (d.Base+1)) d.B,{d with X:=0,Out:=2,PC:=6})
 else (st m (wc (d.Base+1)) d.B,{d with Out:=1,PC:=7})
def zbo (m:List (BitVec 64)) (d:zh):List (BitVec 64)×zh :=
 if d.PC<0∨4≤d.PC then (m,d)
 else if d.PC=0 then (m,{d with T:=ld m d.Base,PC:=1})
 else if d.PC=1 then (m,{d with B:=ld m (wc (d.Base+1)),PC:=2,Out:=if 0<(ld m (wc (d.Base+1))-d.T).toInt then d.Out else 2})
 else if d.PC=2 then (m,{d with X:=(ld m (W2 d d.T)).toInt,PC:=3})
 else ((sw m d.Base d.T (d.T+1#64)).1,if (sw m d.Base d.T (d.T+1#64)).2 then {d with Out:=1,PC:=4} else {d with X:=0,Out:=4,PC:=4})
def zX (m:List (BitVec 64)) (d:zh):List (BitVec 64)×zh :=
 if d.Out≠0 then (m,d) else if d.Kind=1 then yP m d else if d.Kind=2 then zhQ m d else if d.Kind=3 then zbo m d else (m,d)
theorem zuY (m:List (BitVec 64)) (d:zh):(zhQ m d).1.length=m.length∧(zhQ m d).2.Kind=d.Kind∧(zhQ m d).2.Base=d.Base∧(zhQ m d).2.Cap=d.Cap:=by
 unfold zhQ sw st
 split
 ·exact ⟨rfl,rfl,rfl,rfl⟩
 split
 ·exact ⟨rfl,rfl,rfl,rfl⟩
 split
 ·refine ⟨?_,rfl,rfl,rfl⟩;dsimp only;split<;>simp
 split
 ·exact ⟨rfl,rfl,rfl,rfl⟩
 split
 ·exact ⟨rfl,rfl,rfl,rfl⟩
 split
 ·refine ⟨?_,rfl,rfl,rfl⟩;dsimp only;split<;>(try split)<;>simp
 split<;>(refine ⟨?_,rfl,rfl,rfl⟩;dsimp only;split<;>simp)
theorem zr2 (m:List (BitVec 64)) (d:zh):(zbo m d).1.length=m.length∧(zbo m d).2.Kind=d.Kind∧(zbo m d).2.Base=d.Base∧(zbo m d).2.Cap=d.Cap:=by
 unfold zbo sw st
 split
 ·exact ⟨rfl,rfl,rfl,rfl⟩
 split
 ·exact ⟨rfl,rfl,rfl,rfl⟩
 split
 ·exact ⟨rfl,rfl,rfl,rfl⟩
 split
 ·exact ⟨rfl,rfl,rfl,rfl⟩
 ·refine ⟨?_,?_,?_,?_⟩<;>dsimp only<;>split<;>(try split)<;>simp
end
end Go.Pe.G
namespace Go.Pe.G
open Go.Pe
noncomputable section
def xk (h:zt) (o:Int):List Int:=h.Objs.getD (o-1).toNat []
def Vl (h:zt) (o s:Int):Bool:=decide (1≤o)&&decide (o≤(h.Objs.length:Int))&&decide (0≤s)&&decide (s<((xk h o).length:Int))
def xU (h:zt) (o s:Int):Int:=if Vl h o s then (xk h o).getD s.toNat 0 else 0
def yN (s:BitVec 64) (o:Int):Bool:= !(decide (s&&&bit o=0#64))
def uu (t:zr) (o:Int):Int:=if yN (t.Marks&&&t.Black) o then 2 else if yN t.Marks o then 1 else 0
def ue (t:zr) (o:Int):zr:=if uu t o=1 then {t with Black:=t.Black|||bit o} else t
def zaU (l:zj) (who:Int):zj :=
 if 1≤who∧who≤(l.Bal.length:Int) then {l with Scanned:=wc (l.Scanned+1),Bal:=l.Bal.set (who-1).toNat (wc (l.Bal.getD (who-1).toNat 0+1))}
 else {l with Scanned:=wc (l.Scanned+1),Pool:=wc (l.Pool+1)}
def WD (s:za) (b:Int):List Int:=s.Bins.getD b.toNat []
def zvp (p:zb) (h x:Int):zB:=⟨2,0,h,zD p,0#64,x,0,0⟩
def U5 (p:zb) (h x:Int):zB:=⟨1,0,h,zD p,0#64,x,0,0⟩
def onW (s:za) (slot:Int):Int:=if slot=s.H.Slots then 8 else 5
def zaJ (p:zb) (w:Int) (x:zg):zg:={x with PC:=0,Victim:=w,D:=⟨2,0,zN p w,p.Cap,0#64,0#64,0,0⟩}
def zmk (n v:Int):Int:=if v<n then v+1 else 1
def XW (p:zb) (w:Int) (x:zg):zg :=
 if zmk p.Workers x.Victim=w then {x with PC:=2,Victim:=w,C:=zvp p (z7 p) 0}
 else {x with PC:=1,Victim:=zmk p.Workers x.Victim,D:=⟨3,0,zN p (zmk p.Workers x.Victim),p.Cap,0#64,0#64,0,0⟩}
def zo (s:za) (w:Int) (x:zg):za×zg :=
 if x.PC=0∨x.PC=1 then
  ({s with M:=(zX s.M x.D).1},
   if (zX s.M x.D).2.Out=1 then {x with D:=(zX s.M x.D).2,Victim:=w,PC:=5,Obj:=(zX s.M x.D).2.X,Slot:=0}
   else if (zX s.M x.D).2.Out=2∨(zX s.M x.D).2.Out=4 then XW s.P w {x with D:=(zX s.M x.D).2} else {x with D:=(zX s.M x.D).2})
 else if x.PC=2 then
  ({s with M:=(zk s.M x.C).1},
   if (zk s.M x.C).2.Out=1 then {x with C:=(zk s.M x.C).2,Bin:=(zk s.M x.C).2.X,PC:=3}
   else if (zk s.M x.C).2.Out=2 then zaJ s.P w {x with C:=(zk s.M x.C).2} else {x with C:=(zk s.M x.C).2})
 else if x.PC=3 then ({s with Bins:=s.Bins.set x.Bin.toNat []},{x with Batch:=WD s x.Bin,PC:=4,C:=U5 s.P (zD s.P) x.Bin})
 else if x.PC=4 then
  ({s with M:=(zk s.M x.C).1},if (zk s.M x.C).2.Out=1 then {x with C:=(zk s.M x.C).2,Bin:=0,PC:=7} else {x with C:=(zk s.M x.C).2})
 else if x.PC=5 then
  (s,if xU s.H x.Obj x.Slot=0 then {x with Slot:=wc (x.Slot+1),PC:=onW s (wc (x.Slot+1))} else {x with Slot:=wc (x.Slot+1),PC:=6,G:=Ym 1 (xU s.H x.Obj x.Slot) w})
 else if x.PC=6 then ((zu s x.G).1,if (zu s x.G).2.Out=1 then {x with G:=(zu s x.G).2,PC:=onW s x.Slot} else {x with G:=(zu s x.G).2})
 else if x.PC=7 then (s,match x.Batch with | []=>zaJ s.P w x | o::l=>{x with Batch:=l,PC:=5,Obj:=o,Slot:=0})
 else if x.PC=8 then ({s with T:=ue s.T x.Obj,L:=zaU s.L 0},{x with PC:=9})
 else if x.PC=9 then ({s with Work:=wc (s.Work-1)},{x with Obj:=0,PC:=7})
 else (s,x)
def YA (s:za) (w:Int):za :=
 if s.Done=true∨w<1∨(s.Ws.length:Int)<w then s
 else match s.Ws[(w-1).toNat]? with
  | some x=>{(zo s w x).1 with Ws:=s.Ws.set (w-1).toNat (zo s w x).2}
  | none=>s
structure zu3 (p:zb) (nb:Nat) (hd:Int) (c:zB):Prop where
 k:c.Kind=2
 h:c.Head=hd
 n:c.Next=zD p
 v:1≤c.PC→1≤yq c.H∧yq c.H<nb
 y:2≤c.PC→0≤c.Y∧c.Y<nb
 o:c.Out≠1
structure zsQ (p:zb) (nb:Nat) (hd:Int) (c:zB):Prop where
 k:c.Kind=1
 h:c.Head=hd
 n:c.Next=zD p
 x:1≤c.X∧c.X<nb
 v:1≤c.PC→yq c.H<nb
theorem zup {p:zb} {nb:Nat} {hd x:Int}:zu3 p nb hd (zvp p hd x) :=
 ⟨rfl,rfl,rfl,fun e=>absurd e (by show ¬(1:Int)≤0;decide),fun e=>absurd e (by show ¬(2:Int)≤0;decide),by show (0:Int)≠1;decide⟩
theorem zrY {p:zb} {nb:Nat} {hd x:Int} (h:1≤x∧x<nb):zsQ p nb hd (U5 p hd x) :=
 ⟨rfl,rfl,rfl,h,fun e=>absurd e (by show ¬(1:Int)≤0;decide)⟩
structure WOk (p:zb) (nb:Nat) (w:Int) (x:zg):Prop where
 pc:0≤x.PC∧x.PC≤9
 vic:1≤x.Victim∧x.Victim≤p.Workers
 d0:x.PC=0→x.D.Kind=2∧x.D.Base=zN p w∧x.D.Cap=p.Cap
 d1:x.PC=1→x.D.Kind=3∧x.D.Base=zN p x.Victim∧x.D.Cap=p.Cap
 c2:x.PC=2→zu3 p nb (z7 p) x.C
 b3:x.PC=3→1≤x.Bin∧x.Bin<nb
 c4:x.PC=4→zsQ p nb (zD p) x.C
 g6:x.PC=6→MOk p nb x.G∧(x.G.PC=5→x.G.C.Out≠1)∧x.G.Mode=1∧x.G.PC≠4
theorem WOk.plain {p:zb} {nb:Nat} {w:Int} {x:zg} (pc:x.PC=5∨x.PC=7∨x.PC=8∨x.PC=9) (vic:1≤x.Victim∧x.Victim≤p.Workers):WOk p nb w x :=
 ⟨by omega,vic,fun e=>by omega,fun e=>by omega,fun e=>by omega,fun e=>by omega,fun e=>by omega,fun e=>by omega⟩
theorem SOk.swLow {p:zb} {nb:Nat} {s:za} (h:zE p) (S:SOk p nb s) {a:Int} (ha:a<z7 p) (x v:BitVec 64):SOk p nb {s with M:=(sw s.M a x v).1}:=by
 unfold sw
 split
 ·exact S.low h ha v
 ·exact S
theorem zzq {p:zb} {nb:Nat} {s:za} (h:zE p) (S:SOk p nb s) {d:zh} {v:Int} (hv:1≤v∧v≤p.Workers) (hk:d.Kind=2∨d.Kind=3) (hb:d.Base=zN p v):SOk p nb {s with M:=(zX s.M d).1}:=by
 have hd:=Yh h hv.1 hv.2
 have hc:=h.cap
 have hf:=Zo h
 have e1:wc (d.Base+1)=d.Base+1:=xq (by omega) (by omega)
 unfold zX
 split
 ·exact S
 split
 ·omega
 split
 ·unfold zhQ
  rw [e1]
  split
  ·exact S
  split
  ·exact S
  split
  ·exact S.low h (by omega) _
  split
  ·exact S
  split
  ·exact S
  split
  ·exact S.swLow h (by omega) _ _
  split<;>exact S.low h (by omega) _
 split
 ·unfold zbo
  split
  ·exact S
  split
  ·exact S
  split
  ·exact S
  split
  ·exact S
  ·exact S.swLow h (by omega) _ _
 ·exact S
theorem zi7 (m:List (BitVec 64)) (d:zh):(zX m d).1.length=m.length∧(zX m d).2.Kind=d.Kind∧(zX m d).2.Base=d.Base∧(zX m d).2.Cap=d.Cap:=by
 unfold zX
 split
 ·exact ⟨rfl,rfl,rfl,rfl⟩
 split
 ·unfold yP
  split
  ·exact ⟨rfl,rfl,rfl,rfl⟩
  split
  ·exact ⟨rfl,rfl,rfl,rfl⟩
  split
  ·refine ⟨rfl,?_,?_,?_⟩<;>dsimp only<;>split<;>rfl
  split<;>exact ⟨Zl _ _ _,rfl,rfl,rfl⟩
 split
 ·exact zuY m d
 split
 ·exact zr2 m d
 ·exact ⟨rfl,rfl,rfl,rfl⟩
theorem zxA {n v:Int} (h:1≤v∧v≤n):1≤zmk n v∧zmk n v≤n:=by unfold zmk;split<;>omega
theorem WOk.look {p:zb} {nb:Nat} {w:Int} {x:zg} (hw:1≤w∧w≤p.Workers) (vic:1≤x.Victim∧x.Victim≤p.Workers):WOk p nb w (XW p w x):=by
 have hn:=zxA vic
 unfold XW
 split
 ·exact ⟨⟨(by show (0:Int)≤2;decide),(by show (2:Int)≤9;decide)⟩,hw,fun e=>(by cases e),fun e=>(by cases e),fun _=>zup,fun e=>(by cases e),fun e=>(by cases e),fun e=>(by cases e)⟩
 ·exact ⟨⟨(by show (0:Int)≤1;decide),(by show (1:Int)≤9;decide)⟩,hn,fun e=>(by cases e),fun _=>⟨rfl,rfl,rfl⟩,fun e=>(by cases e),fun e=>(by cases e),fun e=>(by cases e),fun e=>(by cases e)⟩
theorem WOk.begin {p:zb} {nb:Nat} {w:Int} {x:zg} (hw:1≤w∧w≤p.Workers):WOk p nb w (zaJ p w x) :=
 ⟨⟨(by show (0:Int)≤0;decide),(by show (0:Int)≤9;decide)⟩,hw,fun _=>⟨rfl,rfl,rfl⟩,fun e=>(by cases e),fun e=>(by cases e),fun e=>(by cases e),fun e=>(by cases e),fun e=>(by cases e)⟩
theorem zuA (s:za) {g:zC} (h1:g.Mode=1) (h4:g.PC≠4):(zu s g).2.PC≠4∧(zu s g).1.Flag=s.Flag:=by
 have five:(5:Int)≠4:=by decide
 unfold zu
 split
 ·exact ⟨h4,rfl⟩
 split
 ·refine ⟨?_,rfl⟩;unfold za6;dsimp only;split<;>exact h4
 split
 ·exact ⟨(by show (7:Int)≠4;decide),rfl⟩
 split
 ·refine ⟨?_,rfl⟩;unfold zhV;dsimp only
  split
  ·show (6:Int)≠4;decide
  split
  ·exact five
  ·exact h4
 split
 ·refine ⟨?_,rfl⟩;unfold zij;dsimp only
  split
  ·exact h4
  split
  ·exact five
  ·exact h4
 split
 ·exact ⟨h4,rfl⟩
 split
 ·refine ⟨?_,rfl⟩;unfold zh1;dsimp only
  split
  ·show (2:Int)≠4;decide
  ·show (3:Int)≠4;decide
 ·exact ⟨(by show (1:Int)≠4;decide),rfl⟩
theorem zlK (s:za) (i:Int):onW s i=5∨onW s i=8:=by unfold onW;split<;>simp
theorem SOk.keep {p:zb} {nb:Nat} {s s':za} (S:SOk p nb s) (hP:s'.P=s.P) (hM:s'.M=s.M) (hB:s'.Bins.length=s.Bins.length):SOk p nb s' :=
 ⟨hP.trans S.P,hB.trans S.bins,S.nbk,by rw [hM];exact S.mem,by rw [hM];exact S.cF,by rw [hM];exact S.cE,by rw [hM];exact S.cL⟩
theorem zui {p:zb} {nb:Nat} {s:za} {w:Int} {x:zg} (h:zE p) (hw:1≤w∧w≤p.Workers) (S:SOk p nb s) (W:WOk p nb w x):SOk p nb (zo s w x).1∧WOk p nb w (zo s w x).2:=by
 have hP:=S.P
 unfold zo
 split
 ·rename_i h01
  have hv: ∃v,(1≤v∧v≤p.Workers)∧(x.D.Kind=2∨x.D.Kind=3)∧x.D.Base=zN p v:=by
   rcases h01 with e | e
   ·obtain ⟨a,b,c⟩:=W.d0 e;exact ⟨w,hw,.inl a,b⟩
   ·obtain ⟨a,b,c⟩:=W.d1 e;exact ⟨x.Victim,W.vic,.inr a,b⟩
  obtain ⟨v,hv1,hv2,hv3⟩:=hv
  refine ⟨zzq h S hv1 hv2 hv3,?_⟩
  obtain ⟨l1,l2,l3,l4⟩:=zi7 s.M x.D
  dsimp only
  split
  ·exact WOk.plain (.inl rfl) hw
  split
  ·rw [hP];exact WOk.look hw W.vic
  ·refine ⟨W.pc,W.vic,fun e=> ?_,fun e=> ?_,fun e=>by dsimp only at e;omega,fun e=>by dsimp only at e;omega,fun e=>by dsimp only at e;omega,fun e=>by dsimp only at e;omega⟩
   ·obtain ⟨a,b,c⟩:=W.d0 e;exact ⟨l2.trans a,l3.trans b,l4.trans c⟩
   ·obtain ⟨a,b,c⟩:=W.d1 e;exact ⟨l2.trans a,l3.trans b,l4.trans c⟩
 split
 ·rename_i h2
  have C:=W.c2 h2
  obtain ⟨b1,b2,b3,b4,b5,b6⟩:=zoe h S (.inl rfl) C.k C.h C.n C.v C.y C.o
  refine ⟨b1,?_⟩
  dsimp only
  split
  ·rename_i e1
   exact ⟨⟨(by show (0:Int)≤3;decide),(by show (3:Int)≤9;decide)⟩,W.vic,fun e=>(by cases e),fun e=>(by cases e),fun e=>(by cases e),fun _=>b6 e1,fun e=>(by cases e),fun e=>(by cases e)⟩
  split
  ·rw [hP];exact WOk.begin hw
  ·rename_i e1 e2
   exact ⟨W.pc,W.vic,fun e=>(by dsimp only at e;omega),fun e=>(by dsimp only at e;omega),fun _=>⟨b2,b3,b4,(b5 e1 e2).1,(b5 e1 e2).2,e1⟩,fun e=>(by dsimp only at e;omega),fun e=>(by dsimp only at e;omega),fun e=>(by dsimp only at e;omega)⟩
 split
 ·rename_i h3
  have B:=W.b3 h3
  refine ⟨S.keep rfl rfl (by simp),?_⟩
  rw [hP]
  exact ⟨⟨(by show (0:Int)≤4;decide),(by show (4:Int)≤9;decide)⟩,W.vic,fun e=>(by cases e),fun e=>(by cases e),fun e=>(by cases e),fun e=>(by cases e),fun _=>zrY B,fun e=>(by cases e)⟩
 split
 ·rename_i h4
  have C:=W.c4 h4
  obtain ⟨b1,b2,b3,b4,b5,b6⟩:=zp0 h S (.inr rfl) C.k C.h C.n C.x C.v
  refine ⟨b1,?_⟩
  dsimp only
  split
  ·exact WOk.plain (.inr (.inl rfl)) W.vic
  ·exact ⟨W.pc,W.vic,fun e=>(by dsimp only at e;omega),fun e=>(by dsimp only at e;omega),fun e=>(by dsimp only at e;omega),fun e=>(by dsimp only at e;omega),fun _=>⟨b2,b3,b4,b5,b6⟩,fun e=>(by dsimp only at e;omega)⟩
 split
 ·refine ⟨S,?_⟩
  dsimp only
  split
  ·rcases zlK s (wc (x.Slot+1)) with e | e<;>rw [e]
   ·exact WOk.plain (.inl rfl) W.vic
   ·exact WOk.plain (.inr (.inr (.inl rfl))) W.vic
  ·exact ⟨⟨(by show (0:Int)≤6;decide),(by show (6:Int)≤9;decide)⟩,W.vic,fun e=>(by cases e),fun e=>(by cases e),fun e=>(by cases e),fun e=>(by cases e),fun e=>(by cases e),fun _ =>
    ⟨⟨fun _=>hw,fun e=>(by cases e),fun e=>(by cases e),fun e=>(by cases e),fun e=>(by cases e)⟩,fun e=>(by cases e),rfl,by show (0:Int)≠4;decide⟩⟩
 split
 ·rename_i h6
  obtain ⟨g1,g2,g3,g4⟩:=W.g6 h6
  obtain ⟨r1,r2,r3⟩:=zmx h S g1 g2
  refine ⟨r1,?_⟩
  dsimp only
  split
  ·rcases zlK s x.Slot with e | e<;>rw [e]
   ·exact WOk.plain (.inl rfl) W.vic
   ·exact WOk.plain (.inr (.inr (.inl rfl))) W.vic
  ·exact ⟨W.pc,W.vic,fun e=>(by dsimp only at e;omega),fun e=>(by dsimp only at e;omega),fun e=>(by dsimp only at e;omega),fun e=>(by dsimp only at e;omega),fun e=>(by dsimp only at e;omega),fun _=>⟨r2,r3,(Vy s x.G).2.2.trans g3,(zuA s g3 g4).1⟩⟩
 split
 ·refine ⟨S,?_⟩
  dsimp only
  split
  ·rw [hP];exact WOk.begin hw
  ·exact WOk.plain (.inl rfl) W.vic
 split
 ·exact ⟨S.keep rfl rfl rfl,WOk.plain (.inr (.inr (.inr rfl))) W.vic⟩
 split
 ·exact ⟨S.keep rfl rfl rfl,WOk.plain (.inr (.inl rfl)) W.vic⟩
 ·have:=W.pc
  omega
end
end Go.Pe.G
namespace Go.Pe.G
open Go.Pe
noncomputable section
def Vj (h:zt) (o s v:Int):zt :=
 if Vl h o s=true∧0≤v∧v≤(h.Objs.length:Int) then {h with Objs:=h.Objs.set (o-1).toNat ((xk h o).set s.toNat v)} else h
def X6 (h:zt) (most:Int):Bool:=decide ((h.Objs.length:Int)<most)&&decide ((h.Objs.length:Int)<64)
def ZZ (h:zt):zt:={h with Objs:=h.Objs++[List.replicate h.Slots.toNat 0]}
def VY (t:zr) (o:Int):zr:=if (uA t o).2=true then ue (uA t o).1 o else t
def VL (l:zj) (who:Int):Int:=l.Bal.getD (who-1).toNat 0
def XY (l:zj) (who:Int):Bool:=decide (1≤who)&&decide (who≤(l.Bal.length:Int))
def Vb (l:zj) (who price limit:Int):Bool:=XY l who&&decide (0≤price)&&decide (0≤limit)&&decide (price≤1000000)&&decide (limit≤1000000)
def zbi (l:zj) (who price limit:Int):Bool:=Vb l who price limit&&decide (wc (-limit)≤wc (VL l who-price))
def Yl (l:zj) (who price:Int):zj:={l with Spent:=wc (l.Spent+price),Bal:=l.Bal.set (who-1).toNat (wc (VL l who-price))}
def zlF (l:zj) (who price limit:Int):Int:=if Vb l who price limit then (if zbi l who price limit then 0 else wc (wc (price-limit)-VL l who)) else -1
def zi2 (a b:Int):Int:=if b<a then b else a
def zaT (l:zj) (who want:Int):zj×Int :=
 if XY l who=true∧0<zi2 want l.Pool then ({l with Pool:=wc (l.Pool-zi2 want l.Pool),Bal:=l.Bal.set (who-1).toNat (wc (VL l who+zi2 want l.Pool))},zi2 want l.Pool) else (l,0)
def yz (p:zb) (m:Int):List zi:=p.Progs.getD (m-1).toNat []
def opM (p:zb) (m:Int) (x:zc):zi:=(yz p m).getD x.IP.toNat ⟨0,0,0,0⟩
def zbP (x:zc) (r:Int):Int:=x.Regs.getD r.toNat 0
def Vt (x:zc):zc:={x with PC:=0,IP:=wc (x.IP+1)}
def setM (x:zc) (r v:Int):zc:={x with PC:=0,IP:=wc (x.IP+1),Regs:=x.Regs.set r.toNat v}
def onM (s:za) (slot:Int):Int:=if slot=s.H.Slots then 38 else 36
def zmo (s:za) (m:Int) (x:zc):Int:=xU s.H (zbP x (opM s.P m x).A) (opM s.P m x).S
def zaA (s:za) (m:Int) (x:zc):zc :=
 if s.Acks.getD (m-1).toNat 0<s.Epoch then {x with PC:=1,Ret:=2,Want:=s.Epoch}
 else if ((yz s.P m).length:Int)≤x.IP then x
 else if (opM s.P m x).Kind=1 then {x with PC:=10}
 else if (opM s.P m x).Kind=2 then {x with PC:=20}
 else if (opM s.P m x).Kind=3 then {x with PC:=30}
 else if (opM s.P m x).Kind=4 then setM x (opM s.P m x).R (zbP x (opM s.P m x).A)
 else setM x (opM s.P m x).R 0
def mu0 (s:za) (m:Int) (x:zc):za×zc :=
 (s,zaA s m x)
def mu1 (s:za) (m:Int) (x:zc):za×zc :=
 (s,if x.Buf.length=0 then {x with PC:=x.Ret} else {x with PC:=3,Buf:=x.Buf.take (x.Buf.length-1),G:=Ym 2 (x.Buf.getD (x.Buf.length-1) 0) m})
def mu2 (s:za) (m:Int) (x:zc):za×zc :=
 ({s with Acks:=s.Acks.set (m-1).toNat x.Want},{x with PC:=0})
def mu3 (s:za) (m:Int) (x:zc):za×zc :=
 ((zu s x.G).1,if (zu s x.G).2.Out=1 then {x with PC:=1,G:=(zu s x.G).2} else {x with G:=(zu s x.G).2})
def zeN (s:za) (m:Int) (x:zc):za×zc :=
 (s,setM x (opM s.P m x).R (zmo s m x))
def zfb (s:za) (m:Int) (x:zc):za×zc :=
 (s,if zbP x (opM s.P m x).A=0 then Vt x else {x with PC:=21,Old:=zmo s m x})
def zeQ (s:za) (m:Int) (x:zc):za×zc :=
 (s,if x.Old=0∨uu s.T x.Old≠0 then {x with PC:=23,Old:=0} else {x with PC:=22})
def ze2 (s:za) (m:Int) (x:zc):za×zc :=
 (s,if s.P.Buf≤(x.Buf.length:Int) then {x with PC:=1,Ret:=22} else {x with PC:=23,Old:=0,Buf:=x.Buf++[x.Old]})
def zeV (s:za) (m:Int) (x:zc):za×zc :=
 ({s with H:=Vj s.H (zbP x (opM s.P m x).A) (opM s.P m x).S (zbP x (opM s.P m x).R)},Vt x)
def zbN (s:za) (m:Int) (x:zc):za×zc :=
   if zbi s.L m s.P.Price s.P.Limit=true then
   if X6 s.H s.P.Most=true then ({s with L:=Yl s.L m s.P.Price,H:=ZZ s.H,T:=VY s.T (wc (s.H.Objs.length+1))},setM x (opM s.P m x).R (wc (s.H.Objs.length+1)))
   else (s,Vt x)
  else (s,{x with PC:=31})
def zj8 (s:za) (m:Int) (x:zc):za×zc :=
   ({s with L:=(zaT s.L m (zlF s.L m s.P.Price s.P.Limit)).1},if (zaT s.L m (zlF s.L m s.P.Price s.P.Limit)).2=0 then {x with PC:=32,C:=zvp s.P (z7 s.P) x.Bin} else {x with PC:=0})
def zky (s:za) (m:Int) (x:zc):za×zc :=
   ({s with M:=(zk s.M x.C).1},if (zk s.M x.C).2.Out=1 then {x with PC:=33,Bin:=(zk s.M x.C).2.X,C:=(zk s.M x.C).2}
   else if (zk s.M x.C).2.Out=2 then {x with PC:=0,C:=(zk s.M x.C).2} else {x with C:=(zk s.M x.C).2})
def zj2 (s:za) (m:Int) (x:zc):za×zc :=
 ({s with Bins:=s.Bins.set x.Bin.toNat []},{x with Batch:=WD s x.Bin,PC:=34,C:=U5 s.P (zD s.P) x.Bin})
def zj7 (s:za) (m:Int) (x:zc):za×zc :=
   ({s with M:=(zk s.M x.C).1},if (zk s.M x.C).2.Out=1 then {x with C:=(zk s.M x.C).2,Bin:=0,PC:=35} else {x with C:=(zk s.M x.C).2})
def zkz (s:za) (m:Int) (x:zc):za×zc :=
 (s,match x.Batch with | []=>{x with PC:=0} | o::l=>{x with PC:=36,Obj:=o,Slot:=0,Batch:=l})
def zkC (s:za) (m:Int) (x:zc):za×zc :=
   (s,if xU s.H x.Obj x.Slot=0 then {x with Slot:=wc (x.Slot+1),PC:=onM s (wc (x.Slot+1))} else {x with Slot:=wc (x.Slot+1),PC:=37,G:=Ym 3 (xU s.H x.Obj x.Slot) m})
def zin (s:za) (m:Int) (x:zc):za×zc :=
 ((zu s x.G).1,if (zu s x.G).2.Out=1 then {x with G:=(zu s x.G).2,PC:=onM s x.Slot} else {x with G:=(zu s x.G).2})
def zkD (s:za) (m:Int) (x:zc):za×zc :=
 ({s with T:=ue s.T x.Obj,L:=zaU s.L m},{x with PC:=39})
def zme (s:za) (m:Int) (x:zc):za×zc :=
 ({s with Work:=wc (s.Work-1)},{x with Obj:=0,PC:=35})
def zm (s:za) (m:Int) (x:zc):za×zc :=
 if x.PC=0 then mu0 s m x
 else if x.PC=1 then mu1 s m x
 else if x.PC=2 then mu2 s m x
 else if x.PC=3 then mu3 s m x
 else if x.PC=10 then zeN s m x
 else if x.PC=20 then zfb s m x
 else if x.PC=21 then zeQ s m x
 else if x.PC=22 then ze2 s m x
 else if x.PC=23 then zeV s m x
 else if x.PC=30 then zbN s m x
 else if x.PC=31 then zj8 s m x
 else if x.PC=32 then zky s m x
 else if x.PC=33 then zj2 s m x
 else if x.PC=34 then zj7 s m x
 else if x.PC=35 then zkz s m x
 else if x.PC=36 then zkC s m x
 else if x.PC=37 then zin s m x
 else if x.PC=38 then zkD s m x
 else if x.PC=39 then zme s m x
 else (s,x)
def yc (s:za) (m:Int):za :=
 if s.Done=true∨m<1∨(s.Ms.length:Int)<m then s
 else match s.Ms[(m-1).toNat]? with
  | some x=>{(zm s m x).1 with Ms:=s.Ms.set (m-1).toNat (zm s m x).2}
  | none=>s
def zcb (p:zb) (m:Int):Nat:=(p.Regs.getD (m-1).toNat []).length
structure XOk (p:zb) (nb:Nat) (m:Int) (x:zc):Prop where
 pc:(0≤x.PC∧x.PC≤3)∨x.PC=10∨(20≤x.PC∧x.PC≤23)∨(30≤x.PC∧x.PC≤39)
 regs:x.Regs.length=zcb p m
 ip:0≤x.IP∧x.IP≤((yz p m).length:Int)
 op:(10≤x.PC∧x.PC≤30)∨((x.PC=1∨x.PC=3)∧x.Ret=22)→x.IP<((yz p m).length:Int)
 ret:x.PC=1∨x.PC=3→x.Ret=2∨x.Ret=22
 c32:x.PC=32→zu3 p nb (z7 p) x.C
 b33:x.PC=33→1≤x.Bin∧x.Bin<nb
 c34:x.PC=34→zsQ p nb (zD p) x.C
 bin:x.PC≠33→x.PC≠34→x.Bin=0
 g:x.PC=3∨x.PC=37→MOk p nb x.G∧(x.G.PC=5→x.G.C.Out≠1)∧x.G.Mode≠1
 buf:(x.Buf.length:Int)≤p.Buf
theorem XOk.move {p:zb} {nb:Nat} {m:Int} {x y:zc} (X:XOk p nb m x) (h:x.PC≠33∧x.PC≠34) (pc:y.PC=0∨y.PC=2∨y.PC=10∨(20≤y.PC∧y.PC≤23)∨y.PC=30∨y.PC=31∨y.PC=35∨y.PC=36∨y.PC=38∨y.PC=39)
  (regs:y.Regs.length=x.Regs.length) (bin:y.Bin=x.Bin) (buf:(y.Buf.length:Int)≤p.Buf) (ip:0≤y.IP∧y.IP≤((yz p m).length:Int)) (op:10≤y.PC∧y.PC≤30→y.IP<((yz p m).length:Int)):XOk p nb m y :=
 ⟨by omega,regs.trans X.regs,ip,fun e=>op (by omega),fun e=>by omega,fun e=>by omega,fun e=>by omega,fun e=>by omega,fun _ _=>bin.trans (X.bin h.1 h.2),fun e=>by omega,buf⟩
theorem zjh (s:za) (i:Int):onM s i=36∨onM s i=38:=by unfold onM;split<;>simp
theorem XOk.next {p:zb} {nb:Nat} {m:Int} {x:zc} (hp:((yz p m).length:Int)≤64) (X:XOk p nb m x) (h:x.PC≠33∧x.PC≠34) (hi:x.IP<((yz p m).length:Int)):XOk p nb m (Vt x):=by
 have:=X.ip
 have e:wc (x.IP+1)=x.IP+1:=xq (by omega) (by omega)
 refine X.move h (.inl rfl) rfl rfl X.buf ?_ (fun h=>absurd h (by show ¬((10:Int)≤0∧(0:Int)≤30);decide))
 show 0≤wc (x.IP+1)∧wc (x.IP+1)≤_
 rw [e];omega
theorem XOk.set {p:zb} {nb:Nat} {m:Int} {x:zc} (hp:((yz p m).length:Int)≤64) (X:XOk p nb m x) (h:x.PC≠33∧x.PC≠34) (hi:x.IP<((yz p m).length:Int)) (r v:Int):XOk p nb m (setM x r v):=by
 have:=X.ip
 have e:wc (x.IP+1)=x.IP+1:=xq (by omega) (by omega)
 refine X.move h (.inl rfl) (by simp [setM]) rfl X.buf ?_ (fun h=>absurd h (by show ¬((10:Int)≤0∧(0:Int)≤30);decide))
 show 0≤wc (x.IP+1)∧wc (x.IP+1)≤_
 rw [e];omega
theorem uw {motive:za×zc→Prop} (s:za) (m:Int) (x:zc) (h0:x.PC=0→motive (mu0 s m x)) (h1:x.PC=1→motive (mu1 s m x)) (h2:x.PC=2→motive (mu2 s m x)) (h3:x.PC=3→motive (mu3 s m x)) (h10:x.PC=10→motive (zeN s m x)) (h20:x.PC=20→motive (zfb s m x)) (h21:x.PC=21→motive (zeQ s m x)) (h22:x.PC=22→motive (ze2 s m x)) (h23:x.PC=23→motive (zeV s m x)) (h30:x.PC=30→motive (zbN s m x)) (h31:x.PC=31→motive (zj8 s m x)) (h32:x.PC=32→motive (zky s m x)) (h33:x.PC=33→motive (zj2 s m x)) (h34:x.PC=34→motive (zj7 s m x)) (h35:x.PC=35→motive (zkz s m x)) (h36:x.PC=36→motive (zkC s m x)) (h37:x.PC=37→motive (zin s m x)) (h38:x.PC=38→motive (zkD s m x)) (h39:x.PC=39→motive (zme s m x)) (hn:motive (s,x)):motive (zm s m x):=by
 unfold zm
 by_cases c0:x.PC=0
 ·rw [if_pos c0];exact h0 c0
 rw [if_neg c0]
 by_cases c1:x.PC=1
 ·rw [if_pos c1];exact h1 c1
 rw [if_neg c1]
 by_cases c2:x.PC=2
 ·rw [if_pos c2];exact h2 c2
 rw [if_neg c2]
 by_cases c3:x.PC=3
 ·rw [if_pos c3];exact h3 c3
 rw [if_neg c3]
 by_cases c10:x.PC=10
 ·rw [if_pos c10];exact h10 c10
 rw [if_neg c10]
 by_cases c20:x.PC=20
 ·rw [if_pos c20];exact h20 c20
 rw [if_neg c20]
 by_cases c21:x.PC=21
 ·rw [if_pos c21];exact h21 c21
 rw [if_neg c21]
 by_cases c22:x.PC=22
 ·rw [if_pos c22];exact h22 c22
 rw [if_neg c22]
 by_cases c23:x.PC=23
 ·rw [if_pos c23];exact h23 c23
 rw [if_neg c23]
 by_cases c30:x.PC=30
 ·rw [if_pos c30];exact h30 c30
 rw [if_neg c30]
 by_cases c31:x.PC=31
 ·rw [if_pos c31];exact h31 c31
 rw [if_neg c31]
 by_cases c32:x.PC=32
 ·rw [if_pos c32];exact h32 c32
 rw [if_neg c32]
 by_cases c33:x.PC=33
 ·rw [if_pos c33];exact h33 c33
 rw [if_neg c33]
 by_cases c34:x.PC=34
 ·rw [if_pos c34];exact h34 c34
 rw [if_neg c34]
 by_cases c35:x.PC=35
 ·rw [if_pos c35];exact h35 c35
 rw [if_neg c35]
 by_cases c36:x.PC=36
 ·rw [if_pos c36];exact h36 c36
 rw [if_neg c36]
 by_cases c37:x.PC=37
 ·rw [if_pos c37];exact h37 c37
 rw [if_neg c37]
 by_cases c38:x.PC=38
 ·rw [if_pos c38];exact h38 c38
 rw [if_neg c38]
 by_cases c39:x.PC=39
 ·rw [if_pos c39];exact h39 c39
 rw [if_neg c39]
 exact hn
theorem zvP {p:zb} {nb:Nat} {s:za} {m:Int} {x:zc} (h:zE p) (hp:((yz p m).length:Int)≤64) (S:SOk p nb s) (X:XOk p nb m x):SOk p nb (zm s m x).1∧XOk p nb m (zm s m x).2:=by
 have hP:=S.P
 have hip:=X.ip
 have hbuf:=X.buf
 have hb:=h.buf
 have nop: ∀y:Int,31≤y→¬(10≤y∧y≤30):=fun y h e=>by omega
 refine uw (motive:=fun r=>SOk p nb r.1∧XOk p nb m r.2) s m x ?_ ?_ ?_ ?_ ?_ ?_ ?_ ?_ ?_ ?_ ?_ ?_ ?_ ?_ ?_ ?_ ?_ ?_ ?_ ?_
 ·intro c
  unfold mu0
  refine ⟨S,?_⟩
  unfold zaA
  rw [hP]
  split
  ·exact ⟨.inl ⟨(by show (0:Int)≤1;decide),(by show (1:Int)≤3;decide)⟩,X.regs,X.ip,fun e=>by dsimp only at e;omega,fun _=> .inl rfl,fun e=>(by cases e),fun e=>(by cases e),fun e=>(by cases e),fun _ _=>X.bin (by omega) (by omega),fun e=>by dsimp only at e;omega,X.buf⟩
  split
  ·exact X
  rename_i hlt
  have hlt:x.IP<((yz p m).length:Int):=by omega
  split
  ·exact X.move (by omega) (.inr (.inr (.inl rfl))) rfl rfl X.buf X.ip (fun _=>hlt)
  split
  ·exact X.move (by omega) (.inr (.inr (.inr (.inl ⟨by show (20:Int)≤20;decide,by show (20:Int)≤23;decide⟩)))) rfl rfl X.buf X.ip (fun _=>hlt)
  split
  ·exact X.move (by omega) (.inr (.inr (.inr (.inr (.inl rfl))))) rfl rfl X.buf X.ip (fun _=>hlt)
  split
  ·exact X.set hp (by omega) hlt _ _
  ·exact X.set hp (by omega) hlt _ _
 ·intro c
  unfold mu1
  refine ⟨S,?_⟩
  split
  ·rcases X.ret (.inl c) with e | e
   ·exact X.move (by omega) (.inr (.inl e)) rfl rfl X.buf X.ip (fun e2=>by dsimp only at e2;omega)
   ·exact X.move (by omega) (.inr (.inr (.inr (.inl (by dsimp only;omega))))) rfl rfl X.buf X.ip (fun e2=>X.op (.inr ⟨.inl c,e⟩))
  ·exact ⟨.inl ⟨(by show (0:Int)≤3;decide),(by show (3:Int)≤3;decide)⟩,X.regs,X.ip,fun e=>X.op (.inr ⟨.inl c,by dsimp only at e;omega⟩),fun _=>X.ret (.inl c),fun e=>(by cases e),fun e=>(by cases e),fun e=>(by cases e),fun _ _=>X.bin (by omega) (by omega),
    fun _=>⟨⟨fun e=>absurd e (by show ¬(2:Int)=1;decide),fun e=>(by cases e),fun e=>(by cases e),fun e=>(by cases e),fun e=>(by cases e)⟩,fun e=>(by cases e),by show (2:Int)≠1;decide⟩,by dsimp only;rw [List.length_take];omega⟩
 ·intro c
  unfold mu2
  exact ⟨S.keep rfl rfl rfl,X.move (by omega) (.inl rfl) rfl rfl X.buf X.ip (fun e=>absurd e (by show ¬((10:Int)≤0∧(0:Int)≤30);decide))⟩
 ·intro c
  unfold mu3
  obtain ⟨g1,g2,g3⟩:=X.g (.inl c)
  obtain ⟨r1,r2,r3⟩:=zmx h S g1 g2
  refine ⟨r1,?_⟩
  dsimp only
  split
  ·exact ⟨.inl ⟨(by show (0:Int)≤1;decide),(by show (1:Int)≤3;decide)⟩,X.regs,X.ip,fun e=>X.op (.inr ⟨.inr c,by dsimp only at e;omega⟩),fun _=>X.ret (.inr c),fun e=>(by cases e),fun e=>(by cases e),fun e=>(by cases e),fun _ _=>X.bin (by omega) (by omega),fun e=>by dsimp only at e;omega,X.buf⟩
  ·exact ⟨X.pc,X.regs,X.ip,X.op,X.ret,fun e=>by dsimp only at e;omega,fun e=>by dsimp only at e;omega,fun e=>by dsimp only at e;omega,X.bin,fun _=>⟨r2,r3,by rw [(Vy s x.G).2.2];exact g3⟩,X.buf⟩
 ·intro c
  unfold zeN
  exact ⟨S,X.set hp (by omega) (X.op (.inl (by omega))) _ _⟩
 ·intro c
  unfold zfb
  refine ⟨S,?_⟩
  split
  ·exact X.next hp (by omega) (X.op (.inl (by omega)))
  ·exact X.move (by omega) (.inr (.inr (.inr (.inl ⟨by show (20:Int)≤21;decide,by show (21:Int)≤23;decide⟩)))) rfl rfl X.buf X.ip (fun _=>X.op (.inl (by omega)))
 ·intro c
  unfold zeQ
  refine ⟨S,?_⟩
  split
  ·exact X.move (by omega) (.inr (.inr (.inr (.inl ⟨by show (20:Int)≤23;decide,by show (23:Int)≤23;decide⟩)))) rfl rfl X.buf X.ip (fun _=>X.op (.inl (by omega)))
  ·exact X.move (by omega) (.inr (.inr (.inr (.inl ⟨by show (20:Int)≤22;decide,by show (22:Int)≤23;decide⟩)))) rfl rfl X.buf X.ip (fun _=>X.op (.inl (by omega)))
 ·intro c
  unfold ze2
  have hi:=X.op (.inl (by omega))
  refine ⟨S,?_⟩
  rw [hP]
  split
  ·exact ⟨.inl ⟨(by show (0:Int)≤1;decide),(by show (1:Int)≤3;decide)⟩,X.regs,X.ip,fun e=>hi,fun _=> .inr rfl,fun e=>(by cases e),fun e=>(by cases e),fun e=>(by cases e),fun _ _=>X.bin (by omega) (by omega),fun e=>by dsimp only at e;omega,X.buf⟩
  ·exact X.move (by omega) (.inr (.inr (.inr (.inl ⟨by show (20:Int)≤23;decide,by show (23:Int)≤23;decide⟩)))) rfl rfl (by simp;omega) X.ip (fun _=>hi)
 ·intro c
  unfold zeV
  exact ⟨S.keep rfl rfl rfl,X.next hp (by omega) (X.op (.inl (by omega)))⟩
 ·intro c
  unfold zbN
  have hi:=X.op (.inl (by omega))
  split
  ·split
   ·exact ⟨S.keep rfl rfl rfl,X.set hp (by omega) hi _ _⟩
   ·exact ⟨S,X.next hp (by omega) hi⟩
  ·exact ⟨S,X.move (by omega) (.inr (.inr (.inr (.inr (.inr (.inl rfl)))))) rfl rfl X.buf X.ip (fun e=>absurd e (by show ¬((10:Int)≤31∧(31:Int)≤30);decide))⟩
 ·intro c
  unfold zj8
  refine ⟨S.keep rfl rfl rfl,?_⟩
  rw [hP]
  split
  ·exact ⟨.inr (.inr (.inr ⟨(by show (30:Int)≤32;decide),(by show (32:Int)≤39;decide)⟩)),X.regs,X.ip,fun e=>by dsimp only at e;omega,fun e=>by dsimp only at e;omega,fun _=>zup,fun e=>(by cases e),fun e=>(by cases e),fun _ _=>X.bin (by omega) (by omega),fun e=>by dsimp only at e;omega,X.buf⟩
  ·exact X.move (by omega) (.inl rfl) rfl rfl X.buf X.ip (fun e=>absurd e (by show ¬((10:Int)≤0∧(0:Int)≤30);decide))
 ·intro c
  unfold zky
  have C:=X.c32 c
  obtain ⟨b1,b2,b3,b4,b5,b6⟩:=zoe h S (.inl rfl) C.k C.h C.n C.v C.y C.o
  refine ⟨b1,?_⟩
  dsimp only
  split
  ·rename_i e1
   exact ⟨.inr (.inr (.inr ⟨(by show (30:Int)≤33;decide),(by show (33:Int)≤39;decide)⟩)),X.regs,X.ip,fun e=>by dsimp only at e;omega,fun e=>by dsimp only at e;omega,fun e=>(by cases e),fun _=>b6 e1,fun e=>(by cases e),fun e=>absurd rfl e,fun e=>by dsimp only at e;omega,X.buf⟩
  split
  ·exact X.move (by omega) (.inl rfl) rfl rfl X.buf X.ip (fun e=>absurd e (by show ¬((10:Int)≤0∧(0:Int)≤30);decide))
  ·rename_i e1 e2
   exact ⟨X.pc,X.regs,X.ip,X.op,X.ret,fun _=>⟨b2,b3,b4,(b5 e1 e2).1,(b5 e1 e2).2,e1⟩,fun e=>by dsimp only at e;omega,fun e=>by dsimp only at e;omega,X.bin,fun e=>by dsimp only at e;omega,X.buf⟩
 ·intro c
  unfold zj2
  have B:=X.b33 c
  refine ⟨S.keep rfl rfl (by simp),?_⟩
  rw [hP]
  exact ⟨.inr (.inr (.inr ⟨(by show (30:Int)≤34;decide),(by show (34:Int)≤39;decide)⟩)),X.regs,X.ip,fun e=>by dsimp only at e;omega,fun e=>by dsimp only at e;omega,fun e=>(by cases e),fun e=>(by cases e),fun _=>zrY B,fun _ e=>absurd rfl e,fun e=>by dsimp only at e;omega,X.buf⟩
 ·intro c
  unfold zj7
  have C:=X.c34 c
  obtain ⟨b1,b2,b3,b4,b5,b6⟩:=zp0 h S (.inr rfl) C.k C.h C.n C.x C.v
  refine ⟨b1,?_⟩
  dsimp only
  split
  ·exact ⟨.inr (.inr (.inr ⟨(by show (30:Int)≤35;decide),(by show (35:Int)≤39;decide)⟩)),X.regs,X.ip,fun e=>by dsimp only at e;omega,fun e=>by dsimp only at e;omega,fun e=>(by cases e),fun e=>(by cases e),fun e=>(by cases e),fun _ _=>rfl,fun e=>by dsimp only at e;omega,X.buf⟩
  ·exact ⟨X.pc,X.regs,X.ip,X.op,X.ret,fun e=>by dsimp only at e;omega,fun e=>by dsimp only at e;omega,fun _=>⟨b2,b3,b4,b5,b6⟩,X.bin,fun e=>by dsimp only at e;omega,X.buf⟩
 ·intro c
  unfold zkz
  refine ⟨S,?_⟩
  dsimp only
  split
  ·exact X.move (by omega) (.inl rfl) rfl rfl X.buf X.ip (fun e=>absurd e (by show ¬((10:Int)≤0∧(0:Int)≤30);decide))
  ·exact X.move (by omega) (by simp) rfl rfl X.buf X.ip (fun e=>absurd e (nop 36 (by omega)))
 ·intro c
  unfold zkC
  refine ⟨S,?_⟩
  dsimp only
  split
  ·rcases zjh s (wc (x.Slot+1)) with e | e<;>rw [e]
   ·exact X.move (by omega) (by simp) rfl rfl X.buf X.ip (fun e=>absurd e (nop 36 (by omega)))
   ·exact X.move (by omega) (by simp) rfl rfl X.buf X.ip (fun e=>absurd e (nop 38 (by omega)))
  ·exact ⟨.inr (.inr (.inr ⟨(by show (30:Int)≤37;decide),(by show (37:Int)≤39;decide)⟩)),X.regs,X.ip,fun e=>by dsimp only at e;omega,fun e=>by dsimp only at e;omega,fun e=>(by cases e),fun e=>(by cases e),fun e=>(by cases e),fun _ _=>X.bin (by omega) (by omega),
    fun _=>⟨⟨fun e=>absurd e (by show ¬(3:Int)=1;decide),fun e=>(by cases e),fun e=>(by cases e),fun e=>(by cases e),fun e=>(by cases e)⟩,fun e=>(by cases e),by show (3:Int)≠1;decide⟩,X.buf⟩
 ·intro c
  unfold zin
  obtain ⟨g1,g2,g3⟩:=X.g (.inr c)
  obtain ⟨r1,r2,r3⟩:=zmx h S g1 g2
  refine ⟨r1,?_⟩
  dsimp only
  split
  ·rcases zjh s x.Slot with e | e<;>rw [e]
   ·exact X.move (by omega) (by simp) rfl rfl X.buf X.ip (fun e=>absurd e (nop 36 (by omega)))
   ·exact X.move (by omega) (by simp) rfl rfl X.buf X.ip (fun e=>absurd e (nop 38 (by omega)))
  ·exact ⟨X.pc,X.regs,X.ip,X.op,X.ret,fun e=>by dsimp only at e;omega,fun e=>by dsimp only at e;omega,fun e=>by dsimp only at e;omega,X.bin,fun _=>⟨r2,r3,by rw [(Vy s x.G).2.2];exact g3⟩,X.buf⟩
 ·intro c
  unfold zkD
  exact ⟨S.keep rfl rfl rfl,X.move (by omega) (by simp) rfl rfl X.buf X.ip (fun e=>absurd e (nop 39 (by omega)))⟩
 ·intro c
  unfold zme
  exact ⟨S.keep rfl rfl rfl,X.move (by omega) (by simp) rfl rfl X.buf X.ip (fun e=>absurd e (nop 35 (by omega)))⟩
 ·exact ⟨S,X⟩
end
end Go.Pe.G
namespace Go.Pe.G
open Go.Pe
noncomputable section
structure HOk (p:zb) (h:zt):Prop where
 slots:h.Slots=p.H.Slots
 n:(p.H.Objs.length:Int)≤(h.Objs.length:Int)∧(h.Objs.length:Int)≤p.Most
 objs: ∀o∈h.Objs,(o.length:Int)=h.Slots∧∀v∈o,0≤v∧v≤(h.Objs.length:Int)
structure EOk (p:zb) (nb:Nat) (s:za):Prop where
 S:SOk p nb s
 wl:(s.Ws.length:Int)=p.Workers
 ml:(s.Ms.length:Int)=p.Mutators
 al:s.Acks.length=s.Ms.length
 W: ∀(i:Nat) x,s.Ws[i]? =some x→WOk p nb ((i:Int)+1) x
 X: ∀(i:Nat) x,s.Ms[i]? =some x→XOk p nb ((i:Int)+1) x
 H:HOk p s.H
 D:(0≤s.D.PC∧s.D.PC≤6)∧(s.D.PC=3→0≤s.D.I∧s.D.I<(s.Ms.length:Int))
 small:Xo s
theorem zkJ {p:zb} (h:zE p) (m:Int):((yz p m).length:Int)≤64:=by
 unfold yz
 have hr:=h.regs
 have hp:=h.progs
 rw [List.getD_eq_getElem?_getD]
 rcases Nat.lt_or_ge (m-1).toNat p.Progs.length with hl | hl
 ·rw [List.getElem?_eq_getElem hl]
  have hl2:(m-1).toNat<p.Regs.length:=by omega
  have:=(h.prog (m-1).toNat _ _ (List.getElem?_eq_getElem hl2) (List.getElem?_eq_getElem hl)).1
  show ((p.Progs[(m-1).toNat]).length:Int)≤64
  omega
 ·rw [List.getElem?_eq_none hl];show (([]:List zi).length:Int)≤64;simp
theorem zsa {p:zb} (h:zE p):EOk p (zO p+1) (yW p):=by
 have hw:=h.wk
 have hm:=h.mt
 have hr:=h.regs
 have hn:=h.n
 have hmo:=h.most
 have hb:=h.buf
 refine ⟨zuh h,?_,?_,?_,fun i x hx=> ?_,fun i x hx=> ?_,⟨rfl,⟨Int.le_refl _,hmo.1⟩,h.objs⟩,⟨⟨by show (0:Int)≤0;decide,by show (0:Int)≤6;decide⟩,fun e=>absurd e (by show ¬(0:Int)=3;decide)⟩,zvZ h⟩
 ·show (((List.range p.Workers.toNat).map (ZH p)).length:Int)=_
  rw [List.length_map,List.length_range];omega
 ·show ((p.Regs.map wQ).length:Int)=_
  rw [List.length_map];exact hr
 ·show (List.replicate p.Mutators.toNat (0:Int)).length=(p.Regs.map wQ).length
  rw [List.length_replicate,List.length_map];omega
 ·have hx:((List.range p.Workers.toNat).map (ZH p))[i]? =some x:=hx
  rw [List.getElem?_map] at hx
  rcases Nat.lt_or_ge i p.Workers.toNat with hl | hl
  ·rw [List.getElem?_range hl] at hx
   injection hx with hx
   subst hx
   exact ⟨⟨by show (0:Int)≤0;decide,by show (0:Int)≤9;decide⟩,by show 1≤(i:Int)+1∧(i:Int)+1≤p.Workers;omega,fun _=>⟨rfl,rfl,rfl⟩,fun e=>(by cases e),fun e=>(by cases e),fun e=>(by cases e),fun e=>(by cases e),fun e=>(by cases e)⟩
  ·rw [List.getElem?_eq_none (by rw [List.length_range];exact hl)] at hx;cases hx
 ·have hx:(p.Regs.map wQ)[i]? =some x:=hx
  rw [List.getElem?_map] at hx
  cases hq:p.Regs[i]? with
  | none=>rw [hq] at hx;cases hx
  | some r =>
   rw [hq] at hx
   injection hx with hx
   subst hx
   refine ⟨.inl ⟨by show (0:Int)≤0;decide,by show (0:Int)≤3;decide⟩,?_,⟨by show (0:Int)≤0;decide,by show (0:Int)≤_;omega⟩,fun e=>absurd e ?_,fun e=>absurd e ?_,fun e=>(by cases e),fun e=>(by cases e),fun e=>(by cases e),fun _ _=>rfl,fun e=>absurd e ?_,by show (0:Int)≤p.Buf;omega⟩
   ·show r.length=zcb p ((i:Int)+1)
    unfold zcb
    rw [show ((i:Int)+1-1).toNat=i by omega,List.getD_eq_getElem?_getD,hq];rfl
   ·intro e;simp [wQ] at e
   ·intro e;simp [wQ] at e
   ·intro e;simp [wQ] at e
theorem zmY {s:za} (h:Xo s) (b:Int):(WD s b).length<1000000:=by
 unfold WD
 rw [List.getD_eq_getElem?_getD]
 cases hq:s.Bins[b.toNat]? with
 | none=>simp
 | some l=>exact h.bin l (List.mem_of_getElem? hq)
theorem zqJ (l:zj) (w:Int):(zaU l w).Bal.length=l.Bal.length:=by unfold zaU;split<;>simp
structure XF (s s':za):Prop where
 P:s'.P=s.P
 m:s'.M.length=s.M.length
 bl:s'.Bins.length=s.Bins.length
 b: ∀l∈s'.Bins,l∈s.Bins∨l.length≤1
 bal:s'.L.Bal.length=s.L.Bal.length
 ac:s'.Acks.length=s.Acks.length
 ws:s'.Ws=s.Ws
 ms:s'.Ms=s.Ms
 done:s'.Done=s.Done
 d:s'.D=s.D
theorem XF.refl (s:za):XF s s:=⟨rfl,rfl,rfl,fun l h=> .inl h,rfl,rfl,rfl,rfl,rfl,rfl⟩
theorem zel (s:za) (g:zC):XF s (zu s g).1∧(zu s g).1.H=s.H:=by
 obtain ⟨m,b,t,w,f,e,h1,h2,h3,_,_⟩:=zfn s g
 rw [e]
 exact ⟨⟨rfl,h1,h2,fun l hl=>(h3 l hl).imp id (fun e=>by rw [e];simp),rfl,rfl,rfl,rfl,rfl,rfl⟩,rfl⟩
theorem zuo {s:za} (b:Nat): ∀l∈s.Bins.set b [],l∈s.Bins∨l.length≤1:=fun l hl=>(List.mem_or_eq_of_mem_set hl).imp id (fun e=>by rw [e];simp)
theorem zwx (s:za) (w:Int) (x:zg):XF s (zo s w x).1∧(zo s w x).1.H=s.H:=by
 unfold zo
 split
 ·exact ⟨⟨rfl,(zi7 _ _).1,rfl,fun l h=> .inl h,rfl,rfl,rfl,rfl,rfl,rfl⟩,rfl⟩
 split
 ·exact ⟨⟨rfl,UW _ _,rfl,fun l h=> .inl h,rfl,rfl,rfl,rfl,rfl,rfl⟩,rfl⟩
 split
 ·exact ⟨⟨rfl,rfl,by simp,zuo _,rfl,rfl,rfl,rfl,rfl,rfl⟩,rfl⟩
 split
 ·exact ⟨⟨rfl,UW _ _,rfl,fun l h=> .inl h,rfl,rfl,rfl,rfl,rfl,rfl⟩,rfl⟩
 split
 ·exact ⟨XF.refl s,rfl⟩
 split
 ·exact zel s x.G
 split
 ·exact ⟨XF.refl s,rfl⟩
 split
 ·exact ⟨⟨rfl,rfl,rfl,fun l h=> .inl h,zqJ _ _,rfl,rfl,rfl,rfl,rfl⟩,rfl⟩
 split
 ·exact ⟨⟨rfl,rfl,rfl,fun l h=> .inl h,rfl,rfl,rfl,rfl,rfl,rfl⟩,rfl⟩
 ·exact ⟨XF.refl s,rfl⟩
theorem zt1 (p:zb) (w:Int) (x:zg):(XW p w x).Batch=x.Batch:=by unfold XW;split<;>rfl
theorem zvf {s:za} (h:Xo s) (w:Int) {x:zg} (hx:x.Batch.length<1000000):(zo s w x).2.Batch.length<1000000:=by
 unfold zo
 split
 ·dsimp only
  split
  ·exact hx
  split
  ·rw [zt1];exact hx
  ·exact hx
 split
 ·dsimp only
  split
  ·exact hx
  split<;>exact hx
 split
 ·exact zmY h _
 split
 ·dsimp only
  split<;>exact hx
 split
 ·dsimp only
  split<;>exact hx
 split
 ·dsimp only
  split<;>exact hx
 split
 ·dsimp only
  cases hb:x.Batch with
  | nil=>show x.Batch.length<_;exact hx
  | cons o l=>rw [hb] at hx;show l.length<_;simp at hx;omega
 split
 ·exact hx
 split
 ·exact hx
 ·exact hx
theorem zvi (l:zj) (w p:Int):(Yl l w p).Bal.length=l.Bal.length:=by unfold Yl;simp
theorem zvJ (l:zj) (w n:Int):(zaT l w n).1.Bal.length=l.Bal.length:=by unfold zaT;split<;>simp
theorem ztq (s:za) (m:Int) (x:zc):XF s (zm s m x).1:=by
 have q: ∀s':za,s'.P=s.P→s'.M=s.M→s'.Bins=s.Bins→s'.L.Bal.length=s.L.Bal.length→s'.Acks.length=s.Acks.length→s'.Ws=s.Ws→s'.Ms=s.Ms→s'.Done=s.Done→s'.D=s.D→XF s s' :=
  fun s' a b c d e f g h i=>⟨a,by rw [b],by rw [c],fun l hl=> .inl (c▸hl),d,e,f,g,h,i⟩
 refine uw (motive:=fun r=>XF s r.1) s m x ?_ ?_ ?_ ?_ ?_ ?_ ?_ ?_ ?_ ?_ ?_ ?_ ?_ ?_ ?_ ?_ ?_ ?_ ?_ ?_
 ·intro c
  unfold mu0
  exact XF.refl s
 ·intro c
  unfold mu1
  exact XF.refl s
 ·intro c
  unfold mu2
  exact q _ rfl rfl rfl rfl (by simp) rfl rfl rfl rfl
 ·intro c
  unfold mu3
  exact (zel s x.G).1
 ·intro c
  unfold zeN
  exact XF.refl s
 ·intro c
  unfold zfb
  exact XF.refl s
 ·intro c
  unfold zeQ
  exact XF.refl s
 ·intro c
  unfold ze2
  exact XF.refl s
 ·intro c
  unfold zeV
  exact q _ rfl rfl rfl rfl rfl rfl rfl rfl rfl
 ·intro c
  unfold zbN
  split
  ·split
   ·exact q _ rfl rfl rfl (zvi _ _ _) rfl rfl rfl rfl rfl
   ·exact XF.refl s
  ·exact XF.refl s
 ·intro c
  unfold zj8
  exact q _ rfl rfl rfl (zvJ _ _ _) rfl rfl rfl rfl rfl
 ·intro c
  unfold zky
  exact ⟨rfl,UW _ _,rfl,fun l h=> .inl h,rfl,rfl,rfl,rfl,rfl,rfl⟩
 ·intro c
  unfold zj2
  exact ⟨rfl,rfl,by simp,zuo _,rfl,rfl,rfl,rfl,rfl,rfl⟩
 ·intro c
  unfold zj7
  exact ⟨rfl,UW _ _,rfl,fun l h=> .inl h,rfl,rfl,rfl,rfl,rfl,rfl⟩
 ·intro c
  unfold zkz
  exact XF.refl s
 ·intro c
  unfold zkC
  exact XF.refl s
 ·intro c
  unfold zin
  exact (zel s x.G).1
 ·intro c
  unfold zkD
  exact q _ rfl rfl rfl (zqJ _ _) rfl rfl rfl rfl rfl
 ·intro c
  unfold zme
  exact q _ rfl rfl rfl rfl rfl rfl rfl rfl rfl
 ·exact XF.refl s
theorem HOk.sm {p:zb} (hp:zE p) {h:zt} (H:HOk p h):h.Objs.length<1000000∧∀x∈h.Objs,x.length<1000000:=by
 have h1:=H.n
 have h2:=hp.most
 have h3:=hp.n
 have h4:=hp.slots
 have h5:=H.slots
 exact ⟨by omega,fun x hx=>by have:=(H.objs x hx).1;omega⟩
theorem Xo.turn {p:zb} (hp:zE p) {s s':za} (h:Xo s) (T:XF s s') (H:HOk p s'.H):Xo s':=by
 have hh:=H.sm hp
 refine ⟨by rw [T.m];exact h.m,by rw [T.bl];exact h.bins,fun x hx=> ?_,by rw [T.ac];exact h.acks,by rw [T.bal];exact h.bal,by rw [T.ws];exact h.ws,by rw [T.ws];exact h.w,by rw [T.ms];exact h.ms,by rw [T.ms];exact h.mu,hh.1,hh.2,by rw [T.P];exact h.pobjs,by rw [T.P];exact h.pobj,by rw [T.P];exact h.regs,by rw [T.P];exact h.reg,by rw [T.P];exact h.progs,by rw [T.P];exact h.prog,by rw [T.P];exact h.picks⟩
 rcases T.b x hx with h' | h'
 ·exact h.bin x h'
 ·omega
theorem Xo.setW {s:za} (h:Xo s) {i:Nat} {x:zg} (hx:x.Batch.length<1000000):Xo {s with Ws:=s.Ws.set i x} :=
 ⟨h.m,h.bins,h.bin,h.acks,h.bal,by simp only [List.length_set];exact h.ws,fun y hy=>by
  rcases List.mem_or_eq_of_mem_set hy with hy | rfl
  ·exact h.w y hy
  ·exact hx,h.ms,h.mu,h.objs,h.obj,h.pobjs,h.pobj,h.regs,h.reg,h.progs,h.prog,h.picks⟩
theorem Xo.setM {s:za} (h:Xo s) {i:Nat} {x:zc} (hx:x.Regs.length<1000000∧x.Buf.length<1000000∧x.Batch.length<1000000):Xo {s with Ms:=s.Ms.set i x} :=
 ⟨h.m,h.bins,h.bin,h.acks,h.bal,h.ws,h.w,by simp only [List.length_set];exact h.ms,fun y hy=>by
  rcases List.mem_or_eq_of_mem_set hy with hy | rfl
  ·exact h.mu y hy
  ·exact hx,h.objs,h.obj,h.pobjs,h.pobj,h.regs,h.reg,h.progs,h.prog,h.picks⟩
theorem zuE {α:Type} {l:List α} {i j:Nat} {x y:α} (h:(l.set i x)[j]? =some y):(j=i∧y=x)∨l[j]? =some y:=by
 rw [List.getElem?_set] at h
 split at h
 ·rename_i e
  split at h
  ·injection h with h;exact .inl ⟨e.symm,h.symm⟩
  ·cases h
 ·exact .inr h
theorem zsH {p:zb} {nb:Nat} {s:za} (h:zE p) (E:EOk p nb s) (w:Int):EOk p nb (YA s w):=by
 unfold YA
 split
 ·exact E
 rename_i hc
 cases hx:s.Ws[(w-1).toNat]? with
 | none=>exact E
 | some x =>
  have hw1: ¬w<1:=fun e=>hc (.inr (.inl e))
  have hw2: ¬(s.Ws.length:Int)<w:=fun e=>hc (.inr (.inr e))
  have hwl:=E.wl
  have ei:(((w-1).toNat:Nat):Int)+1=w:=by omega
  have hW:=E.W _ x hx
  rw [ei] at hW
  obtain ⟨r1,r2⟩:=zui h (by omega) E.S hW
  obtain ⟨T,TH⟩:=zwx s w x
  have sm:Xo (zo s w x).1:=E.small.turn h T (by rw [TH];exact E.H)
  have hws:(zo s w x).1.Ws=s.Ws:=T.ws
  refine ⟨r1.keep rfl rfl rfl,?_,?_,?_,fun i y hy=> ?_,fun i y hy=> ?_,?_,?_,?_⟩
  ·show ((s.Ws.set _ _).length:Int)=_
   rw [List.length_set];exact hwl
  ·show ((zo s w x).1.Ms.length:Int)=_
   rw [T.ms];exact E.ml
  ·show (zo s w x).1.Acks.length=(zo s w x).1.Ms.length
   rw [T.ms,T.ac];exact E.al
  ·rcases zuE hy with ⟨rfl,rfl⟩ | hy
   ·rw [ei];exact r2
   ·exact E.W i y hy
  ·have hy:(zo s w x).1.Ms[i]? =some y:=hy
   rw [T.ms] at hy
   exact E.X i y hy
  ·show HOk p (zo s w x).1.H
   rw [TH];exact E.H
  ·show (0≤(zo s w x).1.D.PC∧(zo s w x).1.D.PC≤6)∧((zo s w x).1.D.PC=3→0≤(zo s w x).1.D.I∧(zo s w x).1.D.I<((zo s w x).1.Ms.length:Int))
   rw [T.d,T.ms];exact E.D
  ·have:=sm.setW (i:=(w-1).toNat) (zvf E.small w (E.small.w x (List.mem_of_getElem? hx)))
   rw [hws] at this
   exact this
theorem HOk.put {p:zb} {h:zt} (H:HOk p h) (o s v:Int):HOk p (Vj h o s v):=by
 unfold Vj
 split
 ·rename_i c
  obtain ⟨c1,c2,c3⟩:=c
  unfold Vl at c1
  simp only [Bool.and_eq_true,decide_eq_true_eq] at c1
  refine ⟨H.slots,by simp only [List.length_set];exact H.n,fun l hl=> ?_⟩
  simp only [List.length_set]
  rcases List.mem_or_eq_of_mem_set hl with hl | rfl
  ·exact H.objs l hl
  ·have hm:xk h o∈h.Objs:=by
    unfold xk
    rw [List.getD_eq_getElem?_getD,List.getElem?_eq_getElem (show (o-1).toNat<h.Objs.length by omega)]
    exact List.getElem_mem _
   obtain ⟨a,b⟩:=H.objs _ hm
   refine ⟨by rw [List.length_set];exact a,fun y hy=> ?_⟩
   rcases List.mem_or_eq_of_mem_set hy with hy | rfl
   ·exact b y hy
   ·exact ⟨c2,c3⟩
 ·exact H
theorem HOk.alloc {p:zb} (hp:zE p) {h:zt} (H:HOk p h) (hr:X6 h p.Most=true):HOk p (ZZ h):=by
 unfold X6 at hr
 simp only [Bool.and_eq_true,decide_eq_true_eq] at hr
 have hs:=hp.slots
 have hsl:=H.slots
 have hn:=H.n
 unfold ZZ
 refine ⟨H.slots,by simp only [List.length_append,List.length_singleton];omega,fun l hl=> ?_⟩
 simp only [List.length_append,List.length_singleton]
 rcases List.mem_append.1 hl with hl | hl
 ·obtain ⟨a,b⟩:=H.objs l hl
  exact ⟨a,fun v hv=>by have:=b v hv;omega⟩
 ·rw [List.mem_singleton.1 hl]
  refine ⟨by rw [List.length_replicate];omega,fun v hv=> ?_⟩
  rw [(List.mem_replicate.1 hv).2];omega
theorem zzo {p:zb} (hp:zE p) {s:za} (hP:s.P=p) (H:HOk p s.H) (m:Int) (x:zc):HOk p (zm s m x).1.H:=by
 refine uw (motive:=fun r=>HOk p r.1.H) s m x ?_ ?_ ?_ ?_ ?_ ?_ ?_ ?_ ?_ ?_ ?_ ?_ ?_ ?_ ?_ ?_ ?_ ?_ ?_ ?_
 ·intro c
  unfold mu0
  exact H
 ·intro c
  unfold mu1
  exact H
 ·intro c
  unfold mu2
  exact H
 ·intro c
  unfold mu3
  rw [(zel s x.G).2];exact H
 ·intro c
  unfold zeN
  exact H
 ·intro c
  unfold zfb
  exact H
 ·intro c
  unfold zeQ
  exact H
 ·intro c
  unfold ze2
  exact H
 ·intro c
  unfold zeV
  exact H.put _ _ _
 ·intro c
  unfold zbN
  split
  ·split
   ·rename_i hr
    rw [hP] at hr
    exact H.alloc hp hr
   ·exact H
  ·exact H
 ·intro c
  unfold zj8
  exact H
 ·intro c
  unfold zky
  exact H
 ·intro c
  unfold zj2
  exact H
 ·intro c
  unfold zj7
  exact H
 ·intro c
  unfold zkz
  exact H
 ·intro c
  unfold zkC
  exact H
 ·intro c
  unfold zin
  rw [(zel s x.G).2];exact H
 ·intro c
  unfold zkD
  exact H
 ·intro c
  unfold zme
  exact H
 ·exact H
theorem zsS (s:za) (m:Int) (x:zc):(zaA s m x).Batch=x.Batch:=by
 unfold zaA
 repeat' split
 all_goals rfl
theorem zwu {s:za} (h:Xo s) (m:Int) {x:zc} (hx:x.Batch.length<1000000):(zm s m x).2.Batch.length<1000000:=by
 refine uw (motive:=fun r=>r.2.Batch.length<1000000) s m x ?_ ?_ ?_ ?_ ?_ ?_ ?_ ?_ ?_ ?_ ?_ ?_ ?_ ?_ ?_ ?_ ?_ ?_ ?_ ?_
 ·intro c
  unfold mu0
  dsimp only;rw [zsS];exact hx
 ·intro c
  unfold mu1
  dsimp only;split<;>exact hx
 ·intro c
  unfold mu2
  exact hx
 ·intro c
  unfold mu3
  dsimp only;split<;>exact hx
 ·intro c
  unfold zeN
  exact hx
 ·intro c
  unfold zfb
  dsimp only;split<;>exact hx
 ·intro c
  unfold zeQ
  dsimp only;split<;>exact hx
 ·intro c
  unfold ze2
  dsimp only;split<;>exact hx
 ·intro c
  unfold zeV
  exact hx
 ·intro c
  unfold zbN
  split
  ·split<;>exact hx
  ·exact hx
 ·intro c
  unfold zj8
  dsimp only;split<;>exact hx
 ·intro c
  unfold zky
  dsimp only
  split
  ·exact hx
  split<;>exact hx
 ·intro c
  unfold zj2
  exact zmY h _
 ·intro c
  unfold zj7
  dsimp only;split<;>exact hx
 ·intro c
  unfold zkz
  dsimp only
  cases hb:x.Batch with
  | nil=>show ([]:List Int).length<1000000;simp
  | cons o l=>rw [hb] at hx;show l.length<_;simp at hx;omega
 ·intro c
  unfold zkC
  dsimp only;split<;>exact hx
 ·intro c
  unfold zin
  dsimp only;split<;>exact hx
 ·intro c
  unfold zkD
  exact hx
 ·intro c
  unfold zme
  exact hx
 ·exact hx
theorem ziI {p:zb} (h:zE p) (m:Int):zcb p m<1000000:=by
 unfold zcb
 rw [List.getD_eq_getElem?_getD]
 cases hq:p.Regs[(m-1).toNat]? with
 | none=>simp
 | some r=>have:=(h.reg r (List.mem_of_getElem? hq)).1;show r.length<_;omega
theorem zl8 {p:zb} {nb:Nat} {s:za} (h:zE p) (E:EOk p nb s) (m:Int):EOk p nb (yc s m):=by
 unfold yc
 split
 ·exact E
 rename_i hc
 cases hx:s.Ms[(m-1).toNat]? with
 | none=>exact E
 | some x =>
  have hw1: ¬m<1:=fun e=>hc (.inr (.inl e))
  have hw2: ¬(s.Ms.length:Int)<m:=fun e=>hc (.inr (.inr e))
  have ei:(((m-1).toNat:Nat):Int)+1=m:=by omega
  have hX:=E.X _ x hx
  rw [ei] at hX
  obtain ⟨r1,r2⟩:=zvP h (zkJ h m) E.S hX
  have T:=ztq s m x
  have TH:=zzo h E.S.P E.H m x
  have sm:Xo (zm s m x).1:=E.small.turn h T TH
  have hms:(zm s m x).1.Ms=s.Ms:=T.ms
  have hb:=h.buf
  refine ⟨r1.keep rfl rfl rfl,?_,?_,?_,fun i y hy=> ?_,fun i y hy=> ?_,TH,?_,?_⟩
  ·show ((zm s m x).1.Ws.length:Int)=_
   rw [T.ws];exact E.wl
  ·show ((s.Ms.set _ _).length:Int)=_
   rw [List.length_set];exact E.ml
  ·show (zm s m x).1.Acks.length=(s.Ms.set _ _).length
   rw [List.length_set,T.ac];exact E.al
  ·have hy:(zm s m x).1.Ws[i]? =some y:=hy
   rw [T.ws] at hy
   exact E.W i y hy
  ·rcases zuE hy with ⟨rfl,rfl⟩ | hy
   ·rw [ei];exact r2
   ·exact E.X i y hy
  ·show (0≤(zm s m x).1.D.PC∧(zm s m x).1.D.PC≤6)∧((zm s m x).1.D.PC=3→0≤(zm s m x).1.D.I∧(zm s m x).1.D.I<((s.Ms.set _ _).length:Int))
   rw [T.d,List.length_set];exact E.D
  ·have q:=E.small.mu x (List.mem_of_getElem? hx)
   have q1:=r2.regs
   have q2:=r2.buf
   have q3:=ziI h m
   have:=sm.setM (i:=(m-1).toNat) (x:=(zm s m x).2) ⟨by omega,by omega,zwu E.small m q.2.2⟩
   rw [hms] at this
   exact this
end
end Go.Pe.G
namespace Go.Pe.G
open Go.Pe
noncomputable section
theorem zuv (t:zr) (o:Int):zig t o=some (uu t o,()):=by
 rw [zs6,zp2,Option.bind_some]
 show (bif yN (t.Marks&&&t.Black) o then _ else _)=_
 unfold uu
 cases h:yN (t.Marks&&&t.Black) o with
 | true=>rfl
 | false =>
  rw [cond_false,zp2,Option.bind_some]
  show (bif yN t.Marks o then _ else _)=_
  cases h2:yN t.Marks o<;>rfl
theorem zqR (t:zr) (o:Int):zdU t o=some (ue t o,decide (uu t o=1),()):=by
 rw [zp1,zuv,Option.bind_some,yL]
 unfold ue
 by_cases h:uu t o=1
 ·rw [if_pos h,if_pos h,zmn,Option.bind_some,decide_eq_true h]
 ·rw [if_neg h,if_neg h,decide_eq_false h]
theorem zoK {h:zt} (hl:h.Objs.length<1000000) (o s:Int):WI h o s=some (Vl h o s,()):=by
 rw [zku]
 simp only [zq]
 unfold Vl
 by_cases h1:1≤o
 ·rw [if_pos h1]
  by_cases h2:o≤(h.Objs.length:Int)
  ·rw [if_pos h2]
   by_cases h3:0≤s
   ·have e:=List.getElem?_eq_getElem (show (o-1).toNat<h.Objs.length by omega)
    rw [if_pos h3,yH (a:=o-1) (by omega) (by omega),ut (by omega),e,Option.bind_some,decide_eq_true h1,decide_eq_true h2,decide_eq_true h3]
    unfold xk
    rw [List.getD_eq_getElem?_getD,e];rfl
   ·rw [if_neg h3,decide_eq_false h3,Bool.and_false];rfl
  ·rw [if_neg h2,decide_eq_false h2,Bool.and_false];rfl
 ·rw [if_neg h1,decide_eq_false h1];rfl
theorem znL {h:zt} (hl:h.Objs.length<1000000) (o s:Int):zck h o s=some (xU h o s,Vl h o s,()):=by
 rw [zrn,zoK hl,Option.bind_some]
 unfold xU
 cases hs:Vl h o s with
 | false=>rfl
 | true =>
  have hs':=hs
  unfold Vl at hs'
  simp only [Bool.and_eq_true,decide_eq_true_eq] at hs'
  obtain ⟨⟨⟨h1,h2⟩,h3⟩,h4⟩:=hs'
  have e:=List.getElem?_eq_getElem (show (o-1).toNat<h.Objs.length by omega)
  have es:xk h o=h.Objs[(o-1).toNat]'(by omega):=by unfold xk;rw [List.getD_eq_getElem?_getD,e];rfl
  rw [es] at h4
  have e2:=List.getElem?_eq_getElem (show s.toNat<(h.Objs[(o-1).toNat]'(by omega)).length by omega)
  simp only [Bool.not_true,cond_false,if_true]
  rw [yH (a:=o-1) (by omega) (by omega),ut (by omega),e,Option.bind_some,ut h3,e2,Option.bind_some,es,List.getD_eq_getElem?_getD,e2];rfl
theorem zgx (l:zj) (who:Int):uK l who=some (decide (1≤who)&&decide (who≤(l.Bal.length:Int)),()):=by
 rw [zgB,zq]
 by_cases h1:1≤who
 ·rw [if_pos h1,decide_eq_true h1];rfl
 ·rw [if_neg h1,decide_eq_false h1];rfl
theorem ztT {l:zj} (hl:l.Bal.length<1000000) (who:Int):ze1 l who=some (zaU l who,()):=by
 rw [znh,wM,zgx,Option.bind_some]
 unfold zaU
 by_cases h:1≤who∧who≤(l.Bal.length:Int)
 ·rw [if_pos h,decide_eq_true h.1,decide_eq_true (show who≤((({l with Scanned:=wc (l.Scanned+1)}:zj).Bal.length:Nat):Int) from h.2)]
  have hn: ¬l.Bal.isEmpty=true:=by
   intro e
   have:l.Bal=[]:=by simpa using e
   rw [this] at h
   simp at h
   omega
  have hn:l.Bal.isEmpty=false:=by simpa using hn
  have e:=List.getElem?_eq_getElem (show (who-1).toNat<l.Bal.length by omega)
  rw [Bool.true_and,Bool.not_true,cond_false,Vc]
  simp only [decide_true,cond_true,zhc (n:=(l.Bal.length:Int)) (by omega) (by omega),Option.bind_some,List.length_replicate,Int.toNat_natCast,hn,cond_false,wM]
  rw [xq (a:=who-1) (by omega) (by omega),ZI (l:=l.Bal) (by omega) (by omega),Option.bind_some,e,Option.bind_some,zln,Option.bind_some,Option.bind_some,Option.bind_some,wM,List.getD_eq_getElem?_getD,e]
  rfl
 ·rw [if_neg h]
  have e:(decide (1≤who)&&decide (who≤((({l with Scanned:=wc (l.Scanned+1)}:zj).Bal.length:Nat):Int)))=false:=by
   by_cases h1:1≤who
   ·rw [decide_eq_true h1,decide_eq_false (fun e=>h ⟨h1,e⟩)];rfl
   ·rw [decide_eq_false h1];rfl
  rw [e];rfl
theorem zwR {α:Type} (o:α) (l:List α):cut (o::l) 1 (((o::l).length:Nat):Int)=some l:=by
 unfold cut
 rw [decide_eq_true (show (0:Int)≤1 by decide),decide_eq_true (show (1:Int)≤(((o::l).length:Nat):Int) by simp;omega),decide_eq_true (Int.le_refl _)]
 simp
end
end Go.Pe.G
namespace Go.Pe.G
open Go.Pe
noncomputable section
theorem zkI {p:zb} (h:zE p) {m:Int} (hm:1≤m∧m≤p.Mutators):p.Progs[(m-1).toNat]? =some (yz p m):=by
 have:=h.progs
 have e:=List.getElem?_eq_getElem (show (m-1).toNat<p.Progs.length by omega)
 unfold yz
 rw [List.getD_eq_getElem?_getD,e];rfl
theorem zgN {p:zb} (h:zE p) {m:Int} (hm:1≤m∧m≤p.Mutators) {o:zi} (ho:o∈yz p m):(0≤o.R∧o.R<(zcb p m:Int))∧(0≤o.A∧o.A<(zcb p m:Int)):=by
 have hr:=h.regs
 have er:=List.getElem?_eq_getElem (show (m-1).toNat<p.Regs.length by omega)
 have e1:zcb p m=(p.Regs[(m-1).toNat]'(by omega)).length:=by unfold zcb;rw [List.getD_eq_getElem?_getD,er];rfl
 have hl:=(h.reg _ (List.getElem_mem (show (m-1).toNat<p.Regs.length by omega))).1
 obtain ⟨a,b⟩:=(h.prog _ _ _ er (zkI h hm)).2 o ho
 rw [e1]
 refine ⟨a,?_⟩
 rcases b with ⟨_,b,_⟩ | ⟨_,b,_⟩ | ⟨_,b,_⟩
 ·exact b
 ·exact b
 ·omega
theorem zfo {p:zb} (h:zE p) {s:za} (hP:s.P=p) {m:Int} (hm:1≤m∧m≤p.Mutators) {x:zc} (hi:0≤x.IP∧x.IP<((yz p m).length:Int)) :
  wY ⟨x,s,m⟩=some (opM p m x,())∧opM p m x∈yz p m:=by
 have hmt:=h.mt
 have e:=List.getElem?_eq_getElem (show x.IP.toNat<(yz p m).length by omega)
 have eo:opM p m x=(yz p m)[x.IP.toNat]'(by omega):=by unfold opM;rw [List.getD_eq_getElem?_getD,e];rfl
 rw [zk2]
 dsimp only
 rw [hP,yH (a:=m-1) (by omega) (by omega),ut (by omega),zkI h hm,Option.bind_some,ut hi.1,e,Option.bind_some,eo]
 exact ⟨rfl,List.getElem_mem _⟩
theorem zjr {x:zc} {r:Int} (h:0≤r∧r<(x.Regs.length:Int)):idx x.Regs r=some (zbP x r):=by
 have e:=List.getElem?_eq_getElem (show r.toNat<x.Regs.length by omega)
 rw [ut h.1,e]
 unfold zbP
 rw [List.getD_eq_getElem?_getD,e];rfl
theorem zdS {s:za} {m:Int} {x:zc} {r:Int} (h:0≤r∧r<(x.Regs.length:Int)) (hl:x.Regs.length<1000000) (v:Int):vY r v ⟨x,s,m⟩=some (⟨setM x r v,s,m⟩,()):=by
 rw [zhK]
 simp only [Vr (show x.Regs.length<4294967296 by omega),Option.bind_some,ZI h.1 h.2,Zd,wM]
 rfl
theorem zmg {p:zb} (h:zE p) {s:za} (hP:s.P=p) {m:Int} (hm:1≤m∧m≤p.Mutators) {x:zc} (hi:0≤x.IP∧x.IP<((yz p m).length:Int)) (hr:x.Regs.length=zcb p m) (ho:s.H.Objs.length<1000000) :
  XT ⟨x,s,m⟩=some (zmo s m x,()):=by
 obtain ⟨e1,e2⟩:=zfo h hP hm hi
 have o:=zgN h hm e2
 rw [zjp]
 simp only [e1,Option.bind_some,zjr (x:=x) (r:=(opM p m x).A) (by omega),znL ho]
 unfold zmo
 rw [hP]
theorem zjC {p:zb} {nb:Nat} (h:zE p) {s:za} (S:SOk p nb s) {m:Int} {x:zc} (M:MOk p nb x.G) (to:Int) :
  ZA to ⟨x,s,m⟩=some (⟨if (zu s x.G).2.Out=1 then {x with PC:=to,G:=(zu s x.G).2} else {x with G:=(zu s x.G).2},(zu s x.G).1,m⟩,()):=by
 rw [zeT]
 simp only [zwa (S.gok h M),Option.bind_some,zq]
 split<;>rfl
theorem zox (s:za) (x:zc) (m:Int):VC ⟨x,s,m⟩=some (onM s x.Slot,()):=by
 rw [zkX,zq]
 unfold onM
 split<;>rfl
theorem zlH (k hd to:Int) (s:za) (x:zc) (m:Int):Z7 k hd to ⟨x,s,m⟩=some (⟨{x with PC:=to,C:=⟨k,0,hd,zD s.P,0#64,x.Bin,0,0⟩},s,m⟩,()):=by
 rw [zg0]
 simp only [zfT,Option.bind_some,zba]
theorem zxy {m:List zc} (h:m.length<4294967296):wL m=some (m,()):=by
 rw [XI,List.nil_append,wD h,Option.bind_some]
 cases m with
 | nil=>simp [zhR]
 | cons a l=>simp
theorem zrD {p:zb} (h:zE p) {nb:Nat} {s:za} (hP:s.P=p) {m:Int} (hm:1≤m∧m≤p.Mutators) (ha:(s.Acks.length:Int)=p.Mutators) {x:zc} (X:XOk p nb m x) :
  Wb ⟨x,s,m⟩=some (⟨zaA s m x,s,m⟩,()):=by
 have hmt:=h.mt
 have hip:=X.ip
 have hrs:=ziI h m
 have e:=List.getElem?_eq_getElem (show (m-1).toNat<s.Acks.length by omega)
 have ed:s.Acks.getD (m-1).toNat 0=s.Acks[(m-1).toNat]'(by omega):=by rw [List.getD_eq_getElem?_getD,e];rfl
 have pg:s.P.Progs[(m-1).toNat]? =some (yz p m):=by rw [hP];exact zkI h hm
 rw [zfZ]
 simp only [zq]
 rw [yH (a:=m-1) (by omega) (by omega),ut (by omega),e,Option.bind_some]
 unfold zaA
 rw [ed,hP]
 by_cases c:(s.Acks[(m-1).toNat]'(by omega))<s.Epoch
 ·rw [if_pos c,if_pos c]
 rw [if_neg c,if_neg c,←hP,ut (by omega),pg,Option.bind_some,hP]
 by_cases c2:((yz p m).length:Int)≤x.IP
 ·rw [if_pos c2,if_pos c2]
 rw [if_neg c2,if_neg c2]
 obtain ⟨e1,e2⟩:=zfo h hP hm (x:=x) (show 0≤x.IP∧x.IP<((yz p m).length:Int) by omega)
 have o:=zgN h hm e2
 have hreg:=X.regs
 rw [e1,Option.bind_some]
 by_cases k1:(opM p m x).Kind=1
 ·rw [if_pos k1,if_pos k1]
 rw [if_neg k1,if_neg k1]
 by_cases k2:(opM p m x).Kind=2
 ·rw [if_pos k2,if_pos k2]
 rw [if_neg k2,if_neg k2]
 by_cases k3:(opM p m x).Kind=3
 ·rw [if_pos k3,if_pos k3]
 rw [if_neg k3,if_neg k3]
 by_cases k4:(opM p m x).Kind=4
 ·rw [if_pos k4,if_pos k4,zjr (x:=x) (r:=(opM p m x).A) (by omega),Option.bind_some,zdS (x:=x) (r:=(opM p m x).R) (by omega) (by omega)];rfl
 ·rw [if_neg k4,if_neg k4,zdS (x:=x) (r:=(opM p m x).R) (by omega) (by omega)];rfl
theorem zqV {h:zt} (hl:h.Objs.length<1000000) (hs: ∀l∈h.Objs,l.length<1000000) (o i v:Int): ∃b,zfV h o i v=some (Vj h o i v,b,()):=by
 rw [zrA,zoK hl,Option.bind_some]
 unfold Vj
 cases ht:Vl h o i with
 | false=>rw [if_neg (fun e=>by cases e.1)];exact ⟨_,rfl⟩
 | true =>
  rw [Bool.not_true,cond_false,zq]
  by_cases h1:v<0
  ·rw [if_pos h1,if_neg (by omega)];exact ⟨_,rfl⟩
  rw [if_neg h1,zq]
  by_cases h2:(h.Objs.length:Int)<v
  ·rw [if_pos h2,if_neg (by omega)];exact ⟨_,rfl⟩
  have hh:=ht
  unfold Vl at hh
  simp only [Bool.and_eq_true,decide_eq_true_eq] at hh
  obtain ⟨⟨⟨g1,g2⟩,g3⟩,g4⟩:=hh
  have e:=List.getElem?_eq_getElem (show (o-1).toNat<h.Objs.length by omega)
  have es:xk h o=h.Objs[(o-1).toNat]'(by omega):=by unfold xk;rw [List.getD_eq_getElem?_getD,e];rfl
  have hlen:=hs _ (List.mem_of_getElem? e)
  rw [if_neg h2,if_pos ⟨rfl,by omega,by omega⟩,zko (by omega),Option.bind_some,yH (a:=o-1) (by omega) (by omega),ZI (l:=h.Objs) (by omega) (by omega),Option.bind_some,e,Option.bind_some,Vr (by omega),Option.bind_some,Option.bind_some,Option.bind_some]
  rw [zq,if_pos rfl,ZI g3 (by rw [←es];exact g4),Option.bind_some,es]
  exact ⟨_,rfl⟩
theorem zkR {h:zt} (h1:1≤h.Slots∧h.Slots≤4) (h2:h.Objs.length≤64) (h3: ∀o∈h.Objs,(o.length:Int)=h.Slots∧∀v∈o,0≤v∧v≤(h.Objs.length:Int)):W5 h=some (true,()):=by
 rw [zhO,zq,if_pos h1.1,zq,if_pos h1.2,zq,if_pos (by omega),zqT (by omega) (by omega) h3]
 rfl
theorem zot {h:zt} (h1:1≤h.Slots∧h.Slots≤4) (h2:h.Objs.length≤64) (h3: ∀o∈h.Objs,(o.length:Int)=h.Slots∧∀v∈o,0≤v∧v≤(h.Objs.length:Int)) (hne:h.Objs≠[]) (most:Int) :
  zcf h most=some (if X6 h most=true then (ZZ h,(h.Objs.length:Int)+1,0,()) else (h,0,4,())):=by
 have hn:h.Objs.length≠0:=fun e=>hne (List.eq_nil_of_length_eq_zero e)
 rw [zoD,zkR h1 h2 h3,Option.bind_some,Bool.not_true,cond_false]
 simp only [zq]
 have er:X6 h most=true↔(h.Objs.length:Int)<most∧(h.Objs.length:Int)<64:=by unfold X6;simp
 have hx:(if 64<most then (64:Int) else most)≤(h.Objs.length:Int)↔¬(X6 h most=true):=by
  rw [er]
  split<;>omega
 by_cases hr:X6 h most=true
 ·rw [if_neg (fun e=>hx.1 e hr),if_pos hr]
  have ec:Y8 h.Objs=some (h.Objs,()):=by
   rw [zeo]
   simp [hn]
  rw [ec,Option.bind_some,if_pos trivial,zhW,decide_eq_true (show 0≤h.Slots by omega),decide_eq_true (show h.Slots<4294967296 by omega)]
  simp only [Bool.and_self,cond_true,Option.bind_some]
  rw [wD (by simp only [List.length_append,List.length_singleton];omega),Option.bind_some]
  unfold ZZ
  simp
 ·rw [if_pos (hx.2 hr),if_neg hr]
theorem zvz (t:zr) (o:Int): ∃b,zgK t o=some (VY t o,b,()):=by
 rw [zo6,zpu,Option.bind_some]
 unfold VY
 dsimp only
 cases hs:(uA t o).2 with
 | false=>rw [if_neg (by simp)];exact ⟨_,rfl⟩
 | true=>rw [Bool.not_true,cond_false,zqR,if_pos rfl];exact ⟨_,rfl⟩
theorem zkS (l:zj) (who price limit:Int):ZQ l who price limit=some (Vb l who price limit,()):=by
 rw [zfD,zgx,Option.bind_some]
 unfold Vb XY
 simp only [zq]
 cases ht:(decide (1≤who)&&decide (who≤(l.Bal.length:Int))) with
 | false=>rw [cond_false];simp
 | true =>
  rw [cond_true]
  by_cases h1:0≤price<;>by_cases h2:0≤limit
  ·rw [if_pos (by split<;>omega)]
   simp only [Bool.true_and,decide_eq_true h1,decide_eq_true h2,Option.some.injEq,Prod.mk.injEq,and_true]
   rw [Bool.eq_iff_iff]
   simp only [decide_eq_true_eq,Bool.and_eq_true]
   split<;>omega
  ·rw [if_neg (by split<;>omega)];simp [h2]
  ·rw [if_neg (by split<;>omega)];simp [h1]
  ·rw [if_neg (by split<;>omega)];simp [h1]
theorem zqq {l:zj} {who:Int} (hl:l.Bal.length<1000000) (h:XY l who=true):idx l.Bal (w64 (who-1))=some (VL l who)∧xg l.Bal (w64 (who-1))=some (who-1).toNat∧l.Bal[(who-1).toNat]? =some (VL l who):=by
 unfold XY at h
 simp only [Bool.and_eq_true,decide_eq_true_eq] at h
 have e:=List.getElem?_eq_getElem (show (who-1).toNat<l.Bal.length by omega)
 have eb:VL l who=l.Bal[(who-1).toNat]'(by omega):=by unfold VL;rw [List.getD_eq_getElem?_getD,e];rfl
 rw [yH (a:=who-1) (by omega) (by omega),ut (by omega),ZI (by omega) (by omega),e,eb]
 exact ⟨rfl,rfl,rfl⟩
theorem zoG {l:zj} (hl:l.Bal.length<1000000) (who price limit:Int):zco l who price limit=some (zbi l who price limit,()):=by
 rw [zo0,zkS,Option.bind_some]
 unfold zbi
 cases hp:Vb l who price limit with
 | false=>rfl
 | true =>
  have ht:XY l who=true:=by unfold Vb at hp;simp only [Bool.and_eq_true] at hp;exact hp.1.1.1.1
  dsimp only
  rw [cond_true,(zqq hl ht).1,Option.bind_some,wM,Bool.true_and,Int.zero_sub]
theorem zkN {l l':zj} (hl:l.Bal.length<1000000) {who:Int} (h:XY l who=true) (hb:l'.Bal=l.Bal) {v:Int} {Q:Option (zj×Unit)} {f:Int→Option (Int×Unit)} (hf:f (VL l who)=some (v,()))
  (hQ:Q=bif decide (((l'.Bal.length:Int))=((l'.Bal.length:Int))) then (Xq ((l'.Bal.length:Int))).bind fun n1=>bif decide (l'.Bal.length=((List.replicate n1 ((0:Int))).length)) then
   bif l'.Bal.isEmpty then (xg (List.replicate n1 ((0:Int))) (w64 (who-1))).bind fun n2=>((List.replicate n1 ((0:Int)))[n2]?).bind fun x3=>(f x3).bind fun y4=>(xg (List.replicate n1 ((0:Int))) (w64 (who-1))).bind fun n5=>some ({l' with Bal:=(List.replicate n1 ((0:Int))).set n5 y4.1},())
   else (xg l'.Bal (w64 (who-1))).bind fun n6=>(l'.Bal[n6]?).bind fun x7=>(f x7).bind fun y8=>(xg l'.Bal (w64 (who-1))).bind fun n9=>some ({l' with Bal:=l'.Bal.set n9 y8.1},()) else none else none) :
  Q=some ({l' with Bal:=l.Bal.set (who-1).toNat v},()):=by
 obtain ⟨e1,e2,e3⟩:=zqq hl h
 have hne:l.Bal.isEmpty=false:=by
  cases hl2:l.Bal with
  | nil=>rw [hl2] at e3;simp at e3
  | cons a r=>rfl
 rw [hQ,hb,zhW,decide_eq_true (show (0:Int)≤(l.Bal.length:Int) by omega),decide_eq_true (show (l.Bal.length:Int)<4294967296 by omega)]
 simp only [decide_true,cond_true,Bool.and_self,Option.bind_some,Int.toNat_natCast,List.length_replicate,hne,cond_false,e2,e3,hf]
theorem zsO {l:zj} (hl:l.Bal.length<1000000) (who price limit:Int):zdC l who price limit=some (if zbi l who price limit=true then (Yl l who price,true,()) else (l,false,())):=by
 rw [zmP,zoG hl,Option.bind_some]
 cases hm:zbi l who price limit with
 | false=>rfl
 | true =>
  have ht:XY l who=true:=by unfold zbi Vb at hm;simp only [Bool.and_eq_true] at hm;exact hm.1.1.1.1.1
  dsimp only
  rw [Bool.not_true,cond_false,zkN (l':={l with Spent:=w64 (l.Spent+price)}) hl ht rfl (f:=fun b=>Vx b price) (v:=wc (VL l who-price)) (by rw [zkW,wM]) (WC _ _ _),Option.bind_some,if_pos rfl,wM]
  rfl
theorem zub {l:zj} (hl:l.Bal.length<1000000) (who want:Int):ze6 l who want=some ((zaT l who want).1,(zaT l who want).2,()):=by
 rw [zn1,zgx,Option.bind_some]
 unfold zaT
 have em:(bif decide (l.Pool<want) then l.Pool else want)=zi2 want l.Pool:=by rw [zq];rfl
 simp only [em]
 have et:(decide (1≤who)&&decide (who≤(l.Bal.length:Int)))=XY l who:=rfl
 rw [et]
 cases ht:XY l who with
 | false=>rw [if_neg (fun e=>by cases e.1)];rfl
 | true =>
  rw [Bool.not_true,cond_false,zq]
  by_cases hz:zi2 want l.Pool≤0
  ·rw [if_pos hz,if_neg (by omega)]
  ·rw [if_neg hz,if_pos ⟨rfl,by omega⟩,zkN (l':={l with Pool:=w64 (l.Pool-zi2 want l.Pool)}) hl ht rfl (f:=fun b=>Uq b (zi2 want l.Pool)) (v:=wc (VL l who+zi2 want l.Pool)) (by rw [zmb,wM]) (W3 _ _ _),Option.bind_some,wM]
theorem zsj {l:zj} (hl:l.Bal.length<1000000) (who price limit:Int):zdr l who price limit=some (zlF l who price limit,()):=by
 rw [zmS,zkS,Option.bind_some]
 unfold zlF
 cases hp:Vb l who price limit with
 | false=>rfl
 | true =>
  have ht:XY l who=true:=by unfold Vb at hp;simp only [Bool.and_eq_true] at hp;exact hp.1.1.1.1
  dsimp only
  rw [Bool.not_true,cond_false,zoG hl,Option.bind_some,if_pos rfl]
  cases hm:zbi l who price limit with
  | false=>rw [cond_false,(zqq hl ht).1,Option.bind_some,wM];rfl
  | true=>rfl
theorem ztR {p:zb} {nb:Nat} (h:zE p) {s:za} {x:zc} {m:Int} (S:SOk p nb s) (X:XOk p nb m x) (hm:1≤m∧m≤p.Mutators) (ha:(s.Acks.length:Int)=p.Mutators) (sm:Xo s) (H:HOk p s.H) (hb:x.Buf.length<1000000) (hbt:x.Batch.length<1000000):Vf ⟨x,s,m⟩=some (⟨(zm s m x).2,(zm s m x).1,m⟩,()):=by
 have hmt:=h.mt
 have hpc:=X.pc
 rw [zhm]
 simp only [zq]
 unfold zm
 by_cases c0:x.PC=0
 ·rw [if_pos c0,if_pos c0,zrD h S.P hm ha X];rfl
 rw [if_neg c0,if_neg c0]
 by_cases c1:x.PC=1
 ·rw [if_pos c1,if_pos c1,zfU]
  simp only [zq]
  unfold mu1
  by_cases e:x.Buf.length=0
  ·rw [if_pos e,if_pos (by rw [yH (by omega) (by omega)];omega)];rfl
  ·have ei:=List.getElem?_eq_getElem (show x.Buf.length-1<x.Buf.length by omega)
   have en:((x.Buf.length:Int)-1).toNat=x.Buf.length-1:=by omega
   have ec:cut x.Buf 0 ((x.Buf.length:Int)-1)=some (x.Buf.take (x.Buf.length-1)):=by
    unfold cut
    rw [decide_eq_true (show (0:Int)≤0 by decide),decide_eq_true (show (0:Int)≤(x.Buf.length:Int)-1 by omega),decide_eq_true (show (x.Buf.length:Int)-1≤(x.Buf.length:Int) by omega),en]
    simp
   rw [if_neg e,yH (a:=(x.Buf.length:Int)-1) (by omega) (by omega),if_neg (by omega),ut (by omega),en,ei,Option.bind_some,zoO,Option.bind_some,ec,List.getD_eq_getElem?_getD,ei]
   rfl
 rw [if_neg c1,if_neg c1]
 by_cases c2:x.PC=2
 ·rw [if_pos c2,if_pos c2,zhF]
  have hs:=sm.acks
  simp only [Vr (show s.Acks.length<4294967296 by omega),Option.bind_some]
  rw [yH (a:=m-1) (by omega) (by omega),ZI (l:=s.Acks) (by omega) (by omega)]
  rfl
 rw [if_neg c2,if_neg c2]
 have hbl:=sm.bal
 have hon:=sm.objs
 have hregs:=X.regs
 have hrs:=ziI h m
 have hHs:=H.slots
 have hHn:=H.n
 have hpn:=h.n
 have hpm:=h.most
 have hps:=h.slots
 have op:=fun (hi:x.IP<((yz p m).length:Int))=>zfo h S.P hm (x:=x) ⟨X.ip.1,hi⟩
 by_cases c3:x.PC=3
 ·rw [if_pos c3,if_pos c3,zf4,zjC h S (X.g (.inl c3)).1];rfl
 rw [if_neg c3,if_neg c3]
 by_cases c10:x.PC=10
 ·have hi:=X.op (.inl (by omega))
  obtain ⟨e1,e2⟩:=op hi
  have o:=zgN h hm e2
  rw [if_pos c10,if_pos c10,zhd,e1,Option.bind_some,zmg h S.P hm ⟨X.ip.1,hi⟩ hregs hon,Option.bind_some,zdS (x:=x) (r:=(opM p m x).R) (by omega) (by omega)]
  unfold zeN
  rw [S.P];rfl
 rw [if_neg c10,if_neg c10]
 by_cases c20:x.PC=20
 ·have hi:=X.op (.inl (by omega))
  obtain ⟨e1,e2⟩:=op hi
  have o:=zgN h hm e2
  rw [if_pos c20,if_pos c20,zhH,e1,Option.bind_some]
  unfold zfb
  dsimp only
  rw [zjr (x:=x) (r:=(opM p m x).A) (by omega),Option.bind_some,zq,S.P]
  by_cases e:zbP x (opM p m x).A=0
  ·rw [if_pos e,if_pos e,Zd,wM];rfl
  ·rw [if_neg e,if_neg e,zmg h S.P hm ⟨X.ip.1,hi⟩ hregs hon];rfl
 rw [if_neg c20,if_neg c20]
 by_cases c21:x.PC=21
 ·rw [if_pos c21,if_pos c21,zf0]
  unfold zeQ
  dsimp only
  rw [zq]
  by_cases e:x.Old=0
  ·rw [if_pos e,if_pos (.inl e)];rfl
  ·rw [if_neg e,zuv,Option.bind_some,yL]
   by_cases e2:uu s.T x.Old=0
   ·rw [if_pos e2,if_neg (fun h=>h.elim e (fun h=>h e2))];rfl
   ·rw [if_neg e2,if_pos (.inr e2)];rfl
 rw [if_neg c21,if_neg c21]
 by_cases c22:x.PC=22
 ·rw [if_pos c22,if_pos c22,zcW]
  unfold ze2
  dsimp only
  rw [zq]
  by_cases e:s.P.Buf≤(x.Buf.length:Int)
  ·rw [if_pos e,if_pos e];rfl
  ·rw [if_neg e,if_neg e,Vr (by omega),Option.bind_some,wD (by simp;omega)];rfl
 rw [if_neg c22,if_neg c22]
 by_cases c23:x.PC=23
 ·have hi:=X.op (.inl (by omega))
  obtain ⟨e1,e2⟩:=op hi
  have o:=zgN h hm e2
  obtain ⟨b,ep⟩:=zqV hon sm.obj (zbP x (opM p m x).A) (opM p m x).S (zbP x (opM p m x).R)
  rw [if_pos c23,if_pos c23,zfI,e1,Option.bind_some]
  dsimp only
  rw [zjr (x:=x) (r:=(opM p m x).A) (by omega),Option.bind_some,zjr (x:=x) (r:=(opM p m x).R) (by omega),Option.bind_some,ep,Option.bind_some,Zd,wM]
  unfold zeV
  rw [S.P];rfl
 rw [if_neg c23,if_neg c23]
 by_cases c30:x.PC=30
 ·have hi:=X.op (.inl (by omega))
  obtain ⟨e1,e2⟩:=op hi
  have o:=zgN h hm e2
  have hne:s.H.Objs≠[]:=fun e=>by
   have e2:s.H.Objs.length=0:=by rw [e];rfl
   omega
  rw [if_pos c30,if_pos c30,zft]
  unfold zbN
  dsimp only
  rw [zsO hbl,Option.bind_some]
  cases hmay:zbi s.L m s.P.Price s.P.Limit with
  | false=>rfl
  | true =>
   rw [if_pos rfl,if_pos rfl]
   dsimp only
   rw [Bool.not_true,cond_false,zot (show 1≤s.H.Slots∧s.H.Slots≤4 by rw [hHs];omega) (show s.H.Objs.length≤64 by omega) H.objs hne,Option.bind_some]
   cases hr:X6 s.H s.P.Most with
   | false =>
    rw [if_neg (by simp),if_neg (by simp)]
    dsimp only
    rw [yL,if_neg (by decide),Zd,wM];rfl
   | true =>
    rw [if_pos rfl,if_pos rfl]
    dsimp only
    obtain ⟨b,ef⟩:=zvz s.T ((s.H.Objs.length:Int)+1)
    rw [yL,if_pos rfl,ef,Option.bind_some]
    have e3:=(zfo h (s:={s with H:=ZZ s.H,T:=VY s.T ((s.H.Objs.length:Int)+1),L:=Yl s.L m s.P.Price}) S.P hm (x:=x) ⟨X.ip.1,hi⟩).1
    rw [e3,Option.bind_some,zdS (x:=x) (r:=(opM p m x).R) (by omega) (by omega),xq (by omega) (by omega)]
    rw [S.P];rfl
 rw [if_neg c30,if_neg c30]
 by_cases c31:x.PC=31
 ·rw [if_pos c31,if_pos c31,zgD]
  unfold zj8
  dsimp only
  rw [zsj hbl,Option.bind_some,zub hbl,Option.bind_some,zq]
  by_cases e:(zaT s.L m (zlF s.L m s.P.Price s.P.Limit)).2=0
  ·rw [if_pos e,if_pos e,zfw,Option.bind_some,zlH];rfl
  ·rw [if_neg e,if_neg e];rfl
 rw [if_neg c31,if_neg c31]
 by_cases c32:x.PC=32
 ·rw [if_pos c32,if_pos c32,zhs]
  unfold zky
  dsimp only
  rw [zfN (by have:=S.mem;omega),Option.bind_some,zq,zq]
  by_cases e:(zk s.M x.C).2.Out=1
  ·rw [if_pos e,if_pos e];rfl
  ·rw [if_neg e,if_neg e]
   by_cases e2:(zk s.M x.C).2.Out=2
   ·rw [if_pos e2,if_pos e2];rfl
   ·rw [if_neg e2,if_neg e2];rfl
 rw [if_neg c32,if_neg c32]
 by_cases c33:x.PC=33
 ·have B:=X.b33 c33
  have hbn:=S.bins
  have hnb:=S.nbk
  have e:=List.getElem?_eq_getElem (show x.Bin.toNat<s.Bins.length by omega)
  rw [if_pos c33,if_pos c33,zfP]
  unfold zj2
  dsimp only
  rw [ut (by omega),e,Option.bind_some,zko (by omega),Option.bind_some,ZI (l:=s.Bins) (by omega) (by omega),Option.bind_some,zdL,Option.bind_some,zlH]
  have eb:WD s x.Bin=s.Bins[x.Bin.toNat]'(by omega):=by unfold WD;rw [List.getD_eq_getElem?_getD,e];rfl
  rw [eb];rfl
 rw [if_neg c33,if_neg c33]
 by_cases c34:x.PC=34
 ·rw [if_pos c34,if_pos c34,zgz]
  unfold zj7
  dsimp only
  rw [zfN (by have:=S.mem;omega),Option.bind_some,zq]
  by_cases e:(zk s.M x.C).2.Out=1
  ·rw [if_pos e,if_pos e];rfl
  ·rw [if_neg e,if_neg e];rfl
 rw [if_neg c34,if_neg c34]
 by_cases c35:x.PC=35
 ·rw [if_pos c35,if_pos c35,zfr]
  unfold zkz
  dsimp only
  rw [zq]
  cases hbb:x.Batch with
  | nil=>rw [if_neg (by simp)];rfl
  | cons o l =>
   have:idx (o::l) 0=some o:=by rw [ut (by omega)];rfl
   rw [if_pos (by simp),this,Option.bind_some,zwR];rfl
 rw [if_neg c35,if_neg c35]
 by_cases c36:x.PC=36
 ·rw [if_pos c36,if_pos c36,zgj]
  unfold zkC
  dsimp only
  rw [znL hon,Option.bind_some,zox,Option.bind_some,yL,wM]
  by_cases e:xU s.H x.Obj x.Slot=0
  ·rw [if_pos e,if_pos e];rfl
  ·rw [if_neg e,if_neg e,zoO];rfl
 rw [if_neg c36,if_neg c36]
 by_cases c37:x.PC=37
 ·rw [if_pos c37,if_pos c37,zhz,zox,Option.bind_some,zjC h S (X.g (.inr c37)).1];rfl
 rw [if_neg c37,if_neg c37]
 by_cases c38:x.PC=38
 ·rw [if_pos c38,if_pos c38,zec]
  unfold zkD
  dsimp only
  rw [zqR,Option.bind_some,ztT hbl];rfl
 rw [if_neg c38,if_neg c38]
 have c39:x.PC=39:=by omega
 rw [if_pos c39,if_pos c39,zeb,wM];rfl
theorem zgP {p:zb} {nb:Nat} {s:za} (h:zE p) (E:EOk p nb s) (m:Int):W7 s m=some (yc s m,()):=by
 rw [zmT]
 simp only [zq]
 unfold yc
 cases hd:s.Done with
 | true=>rw [cond_true,if_pos (.inl rfl)]
 | false =>
  rw [cond_false]
  by_cases h1:m<1
  ·rw [if_pos h1,if_pos (.inr (.inl h1))]
  rw [if_neg h1]
  by_cases h2:(s.Ms.length:Int)<m
  ·rw [if_pos h2,if_pos (.inr (.inr h2))]
  have hml:=E.ml
  have hal:=E.al
  have hmt:=h.mt
  have e:=List.getElem?_eq_getElem (show (m-1).toNat<s.Ms.length by omega)
  have ei:(((m-1).toNat:Nat):Int)+1=m:=by omega
  have hX:=E.X _ _ e
  rw [ei] at hX
  have hb:=(E.small.mu _ (List.mem_of_getElem? e)).2
  have T:=ztq s m (s.Ms[(m-1).toNat]'(by omega))
  rw [if_neg h2,if_neg (fun e=>e.elim (fun h=>by cases h) (fun e=>e.elim h1 h2)),yH (a:=m-1) (by omega) (by omega),ut (by omega),e,Option.bind_some,ztR h E.S hX (by omega) (by omega) E.small E.H hb.1 hb.2,Option.bind_some]
  simp only [T.ms,zxy (show s.Ms.length<4294967296 by omega),Option.bind_some,ZI (l:=s.Ms) (show 0≤m-1 by omega) (show m-1<(s.Ms.length:Int) by omega)]
end
end Go.Pe.G
namespace Go.Pe.G
open Go.Pe
noncomputable section
theorem VD (s:za) (g:zC):(zu s g).1={s with M:=(zu s g).1.M,Bins:=(zu s g).1.Bins,T:=(zu s g).1.T,Work:=(zu s g).1.Work,Flag:=(zu s g).1.Flag}:=by
 obtain ⟨m,b,t,wk,f,e,_⟩:=zfn s g
 rw [e]
theorem zuO {p:zb} {nb:Nat} {s:za} {w:Int} {x:zg} (W:WOk p nb w x):(zo s w x).1={s with M:=(zo s w x).1.M,Bins:=(zo s w x).1.Bins,T:=(zo s w x).1.T,Work:=(zo s w x).1.Work,L:=(zo s w x).1.L}:=by
 unfold zo
 split
 ·rfl
 split
 ·rfl
 split
 ·rfl
 split
 ·rfl
 split
 ·rfl
 split
 ·rename_i h6
  obtain ⟨g1,g2,g3,g4⟩:=W.g6 h6
  have hf:=(zuA s g3 g4).2
  obtain ⟨m,b,t,wk,f,e,_⟩:=zfn s x.G
  dsimp only
  rw [e] at hf ⊢
  have hf:f=s.Flag:=hf
  rw [hf]
 split
 ·rfl
 split
 ·rfl
 split<;>rfl
theorem zrd (s:za) (m:Int) (x:zc):(zm s m x).1={s with H:=(zm s m x).1.H,M:=(zm s m x).1.M,Bins:=(zm s m x).1.Bins,T:=(zm s m x).1.T,Work:=(zm s m x).1.Work,Flag:=(zm s m x).1.Flag,Acks:=(zm s m x).1.Acks,L:=(zm s m x).1.L}:=by
 have g: ∀g:zC,(zu s g).1={s with H:=(zu s g).1.H,M:=(zu s g).1.M,Bins:=(zu s g).1.Bins,T:=(zu s g).1.T,Work:=(zu s g).1.Work,Flag:=(zu s g).1.Flag,Acks:=(zu s g).1.Acks,L:=(zu s g).1.L}:=fun g=>by
  obtain ⟨m,b,t,wk,f,e,_⟩:=zfn s g
  rw [e]
 refine uw (motive:=fun r=>r.1={s with H:=r.1.H,M:=r.1.M,Bins:=r.1.Bins,T:=r.1.T,Work:=r.1.Work,Flag:=r.1.Flag,Acks:=r.1.Acks,L:=r.1.L}) s m x ?_ ?_ ?_ ?_ ?_ ?_ ?_ ?_ ?_ ?_ ?_ ?_ ?_ ?_ ?_ ?_ ?_ ?_ ?_ ?_
 ·exact fun _=>rfl
 ·exact fun _=>rfl
 ·exact fun _=>rfl
 ·exact fun _=>g x.G
 ·exact fun _=>rfl
 ·exact fun _=>rfl
 ·exact fun _=>rfl
 ·exact fun _=>rfl
 ·exact fun _=>rfl
 ·intro _
  unfold zbN
  split
  ·split<;>rfl
  ·rfl
 ·exact fun _=>rfl
 ·exact fun _=>rfl
 ·exact fun _=>rfl
 ·exact fun _=>rfl
 ·exact fun _=>rfl
 ·exact fun _=>rfl
 ·exact fun _=>g x.G
 ·exact fun _=>rfl
 ·exact fun _=>rfl
 ·rfl
theorem zmA (s:za) (m:Int):yc s m={s with H:=(yc s m).H,M:=(yc s m).M,Bins:=(yc s m).Bins,T:=(yc s m).T,Work:=(yc s m).Work,Flag:=(yc s m).Flag,Acks:=(yc s m).Acks,L:=(yc s m).L,Ms:=(yc s m).Ms}:=by
 unfold yc
 split
 ·rfl
 cases hx:s.Ms[(m-1).toNat]? with
 | none=>rfl
 | some x =>
  dsimp only
  rw [zrd]
structure AI (k:Int) (s:za):Prop where
 ep:0≤s.Epoch∧s.Epoch≤k
 m: ∀(i:Nat) x,s.Ms[i]? =some x→s.Acks.getD i 0≤s.Epoch∧(x.PC=2∨((x.PC=1∨x.PC=3)∧x.Ret=2)→s.Acks.getD i 0≤x.Want∧x.Want≤s.Epoch)∧(x.PC=2→x.Buf=[])
def zzy (s s':za):Prop:=∀(i:Nat) x',s'.Ms[i]? =some x'→s.Acks.getD i 0≤s'.Acks.getD i 0∧s'.Acks.getD i 0≤s'.Epoch∧(s.Acks.getD i 0<s'.Acks.getD i 0→x'.Buf=[])
theorem AI.same {k:Int} {s s':za} (A:AI k s) (e1:s'.Epoch=s.Epoch) (e2:s'.Ms=s.Ms) (e3:s'.Acks=s.Acks):AI (k+1) s'∧zzy s s':=by
 refine ⟨⟨by rw [e1];have:=A.ep;omega,by rw [e1,e2,e3];exact A.m⟩,fun i x hx=> ?_⟩
 rw [e2] at hx
 rw [e3,e1]
 exact ⟨Int.le_refl _,(A.m i x hx).1,fun e=>by omega⟩
theorem zxI {α:Type} {l:List α} {i j:Nat} {v d:α} (h:i<l.length):(l.set i v).getD j d=if i=j then v else l.getD j d:=by
 rw [List.getD_eq_getElem?_getD,List.getD_eq_getElem?_getD,List.getElem?_set]
 by_cases e:i=j
 ·rw [if_pos e,if_pos e,if_pos h];rfl
 ·rw [if_neg e,if_neg e]
end
end Go.Pe.G
namespace Go.Pe.G
open Go.Pe
noncomputable section
theorem ztx {v:Int} (h:0≤v∧v<10):zrI v=some (⟨#[UInt8.ofNat (48+v.toNat)]⟩,()):=by
 have e:(decide (0≤v)&&decide (v<100))=true:=by simp;omega
 rw [zxv];unfold zo3
 rw [e,cond_true,Go.Lib.decDigits,dif_pos (by omega)]
theorem join_one (x:ByteArray) (hx:x.data.toList.length<1000) (sep:ByteArray):zvy [x] sep=some (x,()):=by
 rw [zxD];unfold zo5
 simp only [List.map_cons,List.map_nil,Go.Lib.join_one,List.length_cons,List.length_nil]
 have e:(decide (0+1≤140737488355328)&&decide (x.data.toList.length≤140737488355328))=true:=by simp;simp at hx;omega
 rw [e,cond_true]
def zuw (a:ByteArray) (o:List Int):ByteArray:=a++(ByteArray.mk #[124]++⟨#[UInt8.ofNat (48+(o.getD 0 0).toNat)]⟩)
theorem ztj {A B D:Type} {f:A→Option (xu A B D)} {x y:A} {b:B} (h1:f x=some (.again y)) (h:f y=some (.brk b)):yA f x=some (.brk b):=by
 rw [UI]
 show uY f (18446744073709551614+1+1) x=_
 rw [uY,h1,Option.bind_some]
 dsimp only
 rw [uY,h];rfl
theorem zqY (objs:List (List Int)) (hv: ∀o∈objs,∃v:Int,o=[v]∧0≤v∧v<10) (hl:objs.length<1000): ∀(k i:Nat) (a:ByteArray),objs.length-i=k→i≤objs.length→a.size+2*k≤4000→∀m,k<m →
  uY zc6 m (a,objs,(objs.length:Int),(i:Int),())=some (.brk ((objs.drop i).foldl zuw a,()))
 | 0,i,a,hk,hi,ha,m+1,hm=>by
  rw [uY,zfj,zq,if_neg (by omega),List.drop_eq_nil_of_le (by omega)];rfl
 | k+1,i,a,hk,hi,ha,m+1,hm=>by
  have hx:=List.getElem?_eq_getElem (show i<objs.length by omega)
  obtain ⟨v,hvo,h0,h9⟩:=hv _ (List.getElem_mem (show i<objs.length by omega))
  rw [uY,zfj,zq,if_pos (by omega),wv hx,Option.bind_some,hvo]
  rw [ztj (f:=zdp) (y:=(a,objs,(objs.length:Int),(i:Int),[v],(([v]:List Int).length:Int),1,[⟨#[UInt8.ofNat (48+v.toNat)]⟩],()))
   (b:=(a,objs,(objs.length:Int),(i:Int),[⟨#[UInt8.ofNat (48+v.toNat)]⟩],()))
   (by
     rw [zfk,zq,if_pos (by simp),ut (by decide)]
     simp only [Int.toNat_zero,List.getElem?_cons_zero,Option.bind_some,ztx ⟨h0,h9⟩,List.nil_append]
     rw [wD (by simp),Option.bind_some,yH (by decide) (by decide)];rfl)
   (by rw [zfk,zq,if_neg (by simp)]),Option.bind_some]
  dsimp only
  rw [join_one _ (by simp),Option.bind_some]
  dsimp only
  have s1:(ByteArray.mk #[124]++⟨#[UInt8.ofNat (48+v.toNat)]⟩:ByteArray).size=2:=by rw [ByteArray.size_append];rfl
  have s0:(ByteArray.mk #[124]).size+(⟨#[UInt8.ofNat (48+v.toNat)]⟩:ByteArray).size=2:=rfl
  have s2:(a++(ByteArray.mk #[124]++⟨#[UInt8.ofNat (48+v.toNat)]⟩):ByteArray).size=a.size+2:=by rw [ByteArray.size_append,s1]
  rw [zq,if_pos (by rw [s0];omega),zq,if_pos (by rw [s1];omega),xl (by omega),Option.bind_some]
  dsimp only
  rw [List.drop_eq_getElem_cons (show i<objs.length by omega),List.foldl_cons]
  rw [zqY objs hv hl k (i+1) _ (by omega) (by omega) (by rw [s2];omega) m (by omega),hvo]
  rfl
def zue (h:zt):Bool:=decide (h.Slots=1)&&decide (h.Objs.length<10)&&h.Objs.all fun o=>match o with
 | [v]=>decide (0≤v)&&decide (v≤(h.Objs.length:Int))
 | _=>false
theorem zlV {h:zt} (hh:zue h=true):zaL h=some (h.Objs.foldl zuw (ByteArray.mk #[49]),()):=by
 simp only [zue,Bool.and_eq_true,decide_eq_true_eq,List.all_eq_true] at hh
 obtain ⟨⟨h1,h2⟩,h3⟩:=hh
 have h4: ∀o∈h.Objs,∃v:Int,o=[v]∧0≤v∧v≤(h.Objs.length:Int):=fun o ho=>by
  have:=h3 o ho
  match o,this with
  | [v],this=>simp at this;exact ⟨v,rfl,this⟩
 rw [zqE,zkR (by omega) (by omega) (fun o ho=>by
  obtain ⟨v,rfl,hv⟩:=h4 o ho
  exact ⟨by rw [h1];rfl,fun u hu=>by simp at hu;subst hu;exact hv⟩),Option.bind_some]
 dsimp only
 rw [Bool.not_true,cond_false,h1,ztx (by decide),Option.bind_some]
 dsimp only
 have e:=zqY h.Objs (fun o ho=>by obtain ⟨v,a,b⟩:=h4 o ho;exact ⟨v,a,by omega⟩) (by omega) h.Objs.length 0 (ByteArray.mk #[49]) (by omega) (by omega) (by show 1+_≤_;omega) YW (by unfold YW;omega)
 rw [UI]
 refine (congrArg (fun o=>Option.bind o _) e).trans rfl
end
end Go.Pe.G
namespace Go.Pe.G
open Go.Pe
noncomputable section
def Zf (p:zb) (w:Int) (i:Nat):Int:=zN p w+2+((i%p.Cap.toNat:Nat):Int)
structure DQ (p:zb) (m:List (BitVec 64)) (w:Int) (t:Nat) (l:List Int) (c:Nat):Prop where
 top:ld m (zN p w)=BitVec.ofNat 64 t
 bot:ld m (zN p w+1)=BitVec.ofNat 64 (t+l.length-c)
 c1:c≤1
 t1:1≤t
 cap:l.length≤p.Cap.toNat
 small:t+l.length<4294967296
 cell: ∀(i:Nat) (hi:i<l.length),(ld m (Zf p w (t+i))).toInt=l[i]
theorem DQ.keep {p:zb} (h:zE p) {m m':List (BitVec 64)} {w:Int} {t c:Nat} {l:List Int} (D:DQ p m w t l c) (hm: ∀a,zN p w≤a→a<zN p w+p.Cap+2→ld m' a=ld m a):DQ p m' w t l c:=by
 have hc:=h.cap
 refine ⟨by rw [hm _ (by omega) (by omega)];exact D.top,by rw [hm _ (by omega) (by omega)];exact D.bot,D.c1,D.t1,D.cap,D.small,fun i hi=> ?_⟩
 have:=Nat.mod_lt (t+i) (show 0<p.Cap.toNat by omega)
 rw [hm _ (by unfold Zf;omega) (by unfold Zf;omega)]
 exact D.cell i hi
theorem u7 {n:Nat} (h:n<18446744073709551616):(BitVec.ofNat 64 n).toNat=n:=by rw [BitVec.toNat_ofNat];omega
theorem zh0 {a b:Nat} (h:b≤a) (h2:a<18446744073709551616):BitVec.ofNat 64 a-BitVec.ofNat 64 b=BitVec.ofNat 64 (a-b):=by
 apply BitVec.eq_of_toNat_eq
 rw [BitVec.toNat_sub,u7 h2,u7 (by omega),u7 (by omega)]
 omega
theorem zlR {a b:Nat} (h2:a+b<18446744073709551616):BitVec.ofNat 64 a+BitVec.ofNat 64 b=BitVec.ofNat 64 (a+b):=by
 apply BitVec.eq_of_toNat_eq
 rw [BitVec.toNat_add,u7 (by omega),u7 (by omega),u7 (by omega)]
 omega
theorem zwF {a b:Nat} (h:a<18446744073709551616) (h2:b<18446744073709551616) (e:BitVec.ofNat 64 a=BitVec.ofNat 64 b):a=b:=by
 have:=congrArg BitVec.toNat e
 rwa [u7 h,u7 h2] at this
theorem zlT {a b:Nat} (h:a<4294967296) (h2:b<4294967296):0<(BitVec.ofNat 64 a-BitVec.ofNat 64 b).toInt↔b<a:=by
 rw [BitVec.toInt_eq_toNat_cond,BitVec.toNat_sub,u7 (by omega),u7 (by omega)]
 omega
theorem zxZ {t i n c:Nat} (hi:i<n) (hn:n<t+c) (ht:t≤i) (e:i%c=n%c):False:=by
 have h1:=Nat.div_add_mod i c
 have h2:=Nat.div_add_mod n c
 have hc:0<c:=by omega
 rw [e] at h1
 have h3:c*(n/c)=c*(i/c)+(n-i):=by omega
 rcases Nat.lt_or_ge (i/c) (n/c) with h | h
 ·have:c*(i/c)+c≤c*(n/c):=by
   have:=Nat.mul_le_mul_left c h
   rw [Nat.succ_eq_add_one,Nat.mul_add,Nat.mul_one] at this
   exact this
  omega
 ·have:=Nat.mul_le_mul_left c h
  omega
theorem zhP {p:zb} (h:zE p) {d:zh} {w:Int} (hw:1≤w∧w≤p.Workers) (hb:d.Base=zN p w) (hc:d.Cap=p.Cap) {i:Nat} (hi:i<4294967296):W2 d (BitVec.ofNat 64 i)=Zf p w i:=by
 rw [(znK h hw.1 hw.2 hb hc _).1,u7 (by omega),hb];rfl
structure DK (p:zb) (m:List (BitVec 64)) (w:Int) (t:Nat) (l:List Int) (c:Nat) (d:zh):Prop where
 kind:d.Kind=1
 base:d.Base=zN p w
 size:d.Cap=p.Cap
 out:d.Out=0
 c0:c=0
 pc:0≤d.PC∧d.PC≤3
 b:1≤d.PC→d.B=BitVec.ofNat 64 (t+l.length)
 r:2≤d.PC→l.length<p.Cap.toNat
 x:3≤d.PC→(ld m (Zf p w (t+l.length))).toInt=d.X
structure PK (p:zb) (m:List (BitVec 64)) (w:Int) (t:Nat) (l:List Int) (c:Nat) (d:zh):Prop where
 kind:d.Kind=2
 base:d.Base=zN p w
 size:d.Cap=p.Cap
 out:d.Out=0
 pc:0≤d.PC∧d.PC≤6
 c0:d.PC≤1→c=0
 c1:d.PC=2∨4≤d.PC→c=1
 b:d.PC=1∨d.PC=2∨4≤d.PC∨(d.PC=3∧d.T=d.B-1#64)→d.B=BitVec.ofNat 64 (t+l.length)
 c3:d.PC=3→d.T=d.B-1#64→c=1
 n3:d.PC=3→d.T≠d.B-1#64→c=0∧d.B=BitVec.ofNat 64 (t+l.length+1)∧t+l.length+1<4294967296∧l.length+1≤p.Cap.toNat
 t3:d.PC=3∨d.PC=4→d.T.toNat≤t
 t4:d.PC=4→d.T=d.B-1#64
 x4:d.PC=4→d.T.toNat=t→l=[d.X]
 e5:5≤d.PC→l=[]
def Y0 (m:List (BitVec 64)) (d:zh):List Int :=
 if d.PC=3∧d.T≠d.B-1#64 then [(ld m (W2 d (d.B-1#64))).toInt] else if d.PC=6 then [d.X] else []
structure TK (p:zb) (m:List (BitVec 64)) (w:Int) (t:Nat) (l:List Int) (d:zh):Prop where
 kind:d.Kind=3
 base:d.Base=zN p w
 size:d.Cap=p.Cap
 out:d.Out=0
 pc:0≤d.PC∧d.PC≤3
 le:1≤d.PC→d.T.toNat≤t
 ne:2≤d.PC→d.T.toNat=t→l≠[]
 hd:d.PC=3→d.T.toNat=t→l.head? =some d.X
structure Dv (t:Nat) (l:List Int) (t':Nat) (l':List Int):Prop where
 le:t≤t'
 hd:t'=t→l≠[]→l'≠[]∧l'.head? =l.head?
theorem Dv.refl (t:Nat) (l:List Int):Dv t l t l:=⟨Nat.le_refl _,fun _ h=>⟨h,rfl⟩⟩
theorem TK.dv {p:zb} {m m':List (BitVec 64)} {w:Int} {t t':Nat} {l l':List Int} {d:zh} (K:TK p m w t l d) (V:Dv t l t' l'):TK p m' w t' l' d:=by
 have h1:=V.le
 refine ⟨K.kind,K.base,K.size,K.out,K.pc,fun h=>Nat.le_trans (K.le h) h1,fun h e=> ?_,fun h e=> ?_⟩
 ·have:=K.le (by omega)
  have et:t'=t:=by omega
  exact (V.hd et (K.ne h (by omega))).1
 ·have:=K.le (by omega)
  have et:t'=t:=by omega
  rw [(V.hd et (K.ne (by omega) (by omega))).2]
  exact K.hd h (by omega)
theorem zvk {p:zb} (h:zE p) {m:List (BitVec 64)} {w:Int} {t c:Nat} {l:List Int} {d:zh} (hw:1≤w∧w≤p.Workers) (hlen:z7 p≤m.length) (D:DQ p m w t l c) (K:TK p m w t l d) :
  ((zX m d).1=m∧(((zX m d).2.Out=0∧TK p m w t l (zX m d).2)∨(zX m d).2.Out=2∨(zX m d).2.Out=4)) ∨
  (∃x l',l=x::l'∧(zX m d).2.Out=1∧(zX m d).2.X=x∧DQ p (zX m d).1 w (t+1) l' c∧(∀a,a≠zN p w→ld (zX m d).1 a=ld m a)):=by
 have hc:=h.cap
 have hd:=Yh h hw.1 hw.2
 have hf:=Zo h
 have hpc:=K.pc
 have hsm:=D.small
 have ht1:=D.t1
 have hc1:=D.c1
 have eb:wc (d.Base+1)=zN p w+1:=by rw [K.base,xq (by omega) (by omega)]
 have k:=K.kind
 unfold zX
 rw [if_neg (by have:=K.out;omega),if_neg (by omega),if_neg (by omega),if_pos k]
 unfold zbo
 rw [if_neg (by omega),eb]
 by_cases c0:d.PC=0
 ·rw [if_pos c0]
  exact .inl ⟨rfl,.inl ⟨K.out,⟨k,K.base,K.size,K.out,⟨by dsimp only;omega,by dsimp only;omega⟩,fun _=>by dsimp only;rw [K.base,D.top,u7 (by omega)];exact Nat.le_refl _,fun e=>by dsimp only at e;omega,fun e=>by dsimp only at e;omega⟩⟩⟩
 rw [if_neg c0]
 have hT:=K.le (by omega)
 by_cases c1:d.PC=1
 ·rw [if_pos c1]
  left
  refine ⟨rfl,?_⟩
  by_cases hs:0<(ld m (zN p w+1)-d.T).toInt
  ·left
   dsimp only
   rw [if_pos hs]
   refine ⟨K.out,⟨k,K.base,K.size,K.out,⟨by dsimp only;omega,by dsimp only;omega⟩,fun _=>hT,fun _ e=> ?_,fun e=>by dsimp only at e;omega⟩⟩
   have e:d.T.toNat=t:=e
   have eT:d.T=BitVec.ofNat 64 t:=by apply BitVec.eq_of_toNat_eq;rw [u7 (by omega)];exact e
   rw [D.bot,eT] at hs
   have:=(zlT (by omega) (by omega)).1 hs
   intro el
   rw [el] at this
   simp at this
   omega
  ·right;left
   dsimp only
   rw [if_neg hs]
 rw [if_neg c1]
 by_cases c2:d.PC=2
 ·rw [if_pos c2]
  left
  refine ⟨rfl,.inl ⟨K.out,⟨k,K.base,K.size,K.out,⟨by dsimp only;omega,by dsimp only;omega⟩,fun _=>hT,fun _ e=>K.ne (by omega) e,fun _ e=> ?_⟩⟩⟩
  have e:d.T.toNat=t:=e
  have eT:d.T=BitVec.ofNat 64 t:=by apply BitVec.eq_of_toNat_eq;rw [u7 (by omega)];exact e
  have hn:=K.ne (by omega) e
  cases l with
  | nil=>exact absurd rfl hn
  | cons x l =>
   have:=D.cell 0 (by simp)
   dsimp only
   rw [eT,zhP h hw K.base K.size (by omega)]
   rw [Nat.add_zero] at this
   rw [this];rfl
 rw [if_neg c2]
 have c3:d.PC=3:=by omega
 by_cases hs:ld m d.Base=d.T
 ·right
  have eT:d.T.toNat=t:=by rw [←hs,K.base,D.top,u7 (by omega)]
  have eT':d.T=BitVec.ofNat 64 t:=by rw [←hs,K.base,D.top]
  have hx:=K.hd c3 eT
  have hn:=K.ne (by omega) eT
  have hsw:sw m d.Base d.T (d.T+1#64)=(st m d.Base (d.T+1#64),true):=by unfold sw;rw [if_pos ⟨by rw [K.base];omega,by rw [K.base];omega,hs⟩]
  rw [hsw]
  cases l with
  | nil=>exact absurd rfl hn
  | cons x l =>
   have hx:x=d.X:=by simpa using hx
   have hmod: ∀i,zN p w+2≤Zf p w i:=fun i=>by unfold Zf;omega
   have hlc:=D.cap
   rw [List.length_cons] at hlc hsm
   refine ⟨x,l,rfl,rfl,hx.symm,⟨?_,?_,hc1,by omega,by omega,by omega,fun i hi=> ?_⟩,fun a ha=> ?_⟩
   ·dsimp only
    rw [K.base,Xp,if_pos ⟨rfl,by omega,by omega⟩,eT']
    exact zlR (by omega)
   ·dsimp only
    rw [K.base,yo (by omega),D.bot,List.length_cons]
    congr 1
    omega
   ·dsimp only
    have:=hmod (t+1+i)
    rw [K.base,yo (by omega)]
    have:=D.cell (i+1) (by simp;omega)
    rw [show t+(i+1)=t+1+i by omega] at this
    simpa using this
   ·dsimp only
    rw [K.base,yo (fun e=>ha e.symm)]
 ·left
  have hsw:sw m d.Base d.T (d.T+1#64)=(m,false):=by unfold sw;rw [if_neg (fun e=>hs e.2.2)]
  rw [hsw]
  exact ⟨rfl,.inr (.inr rfl)⟩
theorem vm {m:List (BitVec 64)} {d:zh} (h:d.PC≠3∨d.T=d.B-1#64) (h2:d.PC≠6):Y0 m d=[]:=by
 unfold Y0
 rw [if_neg (fun e=>h.elim (fun f=>f e.1) (fun f=>e.2 f)),if_neg h2]
theorem zr9 {p:zb} (h:zE p) {m:List (BitVec 64)} {w:Int} {t c:Nat} {l:List Int} {d:zh} (hw:1≤w∧w≤p.Workers) (hlen:z7 p≤m.length) (D:DQ p m w t l c) (K:PK p m w t l c d) :
  ∃t' l' c',DQ p (zX m d).1 w t' l' c'∧(∀a,a≠zN p w→a≠zN p w+1→ld (zX m d).1 a=ld m a)∧Dv t l t' l'∧t'+l'.length≤t+l.length ∧
   (((zX m d).2.Out=0∧PK p (zX m d).1 w t' l' c' (zX m d).2∧List.Perm (l'++Y0 (zX m d).1 (zX m d).2) (l++Y0 m d)) ∨
    ((zX m d).2.Out=1∧c'=0∧List.Perm (l'++[(zX m d).2.X]) (l++Y0 m d)) ∨
    ((zX m d).2.Out=2∧c'=0∧l'=[]∧l=[]∧Y0 m d=[])):=by
 have hc:=h.cap
 have hd:=Yh h hw.1 hw.2
 have hf:=Zo h
 have hpc:=K.pc
 have hsm:=D.small
 have ht1:=D.t1
 have hc1:=D.c1
 have eb:wc (d.Base+1)=zN p w+1:=by rw [K.base,xq (by omega) (by omega)]
 have k:=K.kind
 have one:(1#64:BitVec 64)=BitVec.ofNat 64 1:=rfl
 have hmod: ∀i,zN p w+2≤Zf p w i∧Zf p w i<zN p w+p.Cap+2:=fun i=>by
  have:=Nat.mod_lt i (show 0<p.Cap.toNat by omega)
  unfold Zf;omega
 have stb: ∀(c':Nat) (v:BitVec 64),c'≤1→v=BitVec.ofNat 64 (t+l.length-c')→DQ p (st m (zN p w+1) v) w t l c'∧(∀a,a≠zN p w→a≠zN p w+1→ld (st m (zN p w+1) v) a=ld m a):=by
  intro c' v h1 h2
  refine ⟨⟨by rw [yo (by omega)];exact D.top,by rw [Xp,if_pos ⟨rfl,by omega,by omega⟩];exact h2,h1,ht1,D.cap,hsm,fun i hi=>by rw [yo (by have:=hmod (t+i);omega)];exact D.cell i hi⟩,fun a _ h2=>yo (fun e=>h2 e.symm)⟩
 unfold zX
 rw [if_neg (by have:=K.out;omega),if_neg (by omega),if_pos k]
 unfold zhQ
 rw [if_neg (by omega),eb]
 by_cases p0:d.PC=0
 ·rw [if_pos p0]
  have hc0:=K.c0 (by omega)
  refine ⟨t,l,c,D,fun _ _ _=>rfl,Dv.refl _ _,Nat.le_refl _,.inl ⟨K.out,⟨k,K.base,K.size,K.out,⟨by dsimp only;omega,by dsimp only;omega⟩,fun _=>hc0,fun e=>by dsimp only at e;omega,fun _=> ?_,fun e=>by dsimp only at e;omega,fun e=>by dsimp only at e;omega,fun e=>by dsimp only at e;omega,fun e=>by dsimp only at e;omega,fun e=>by dsimp only at e;omega,fun e=>by dsimp only at e;omega⟩,?_⟩⟩
  ·dsimp only;rw [D.bot,hc0];rfl
  ·rw [vm (.inl (by dsimp only;omega)) (by dsimp only;omega),vm (.inl (by omega)) (by omega)]
 rw [if_neg p0]
 by_cases p1:d.PC=1
 ·rw [if_pos p1]
  have hB:=K.b (.inl p1)
  have eB:d.B-1#64=BitVec.ofNat 64 (t+l.length-1):=by rw [hB,one,zh0 (by omega) (by omega)]
  obtain ⟨D',hm⟩:=stb 1 (d.B-1#64) (by omega) eB
  refine ⟨t,l,1,D',hm,Dv.refl _ _,Nat.le_refl _,.inl ⟨K.out,⟨k,K.base,K.size,K.out,⟨by dsimp only;omega,by dsimp only;omega⟩,fun e=>by dsimp only at e;omega,fun _=>rfl,fun _=>hB,fun e=>by dsimp only at e;omega,fun e=>by dsimp only at e;omega,fun e=>by dsimp only at e;omega,fun e=>by dsimp only at e;omega,fun e=>by dsimp only at e;omega,fun e=>by dsimp only at e;omega⟩,?_⟩⟩
  rw [vm (.inl (by dsimp only;omega)) (by dsimp only;omega),vm (.inl (by omega)) (by omega)]
 rw [if_neg p1]
 by_cases p2:d.PC=2
 ·rw [if_pos p2]
  have hB:=K.b (.inr (.inl p2))
  have hc':=K.c1 (.inl p2)
  have eB:d.B-1#64=BitVec.ofNat 64 (t+l.length-1):=by rw [hB,one,zh0 (by omega) (by omega)]
  have eT:ld m d.Base=BitVec.ofNat 64 t:=by rw [K.base];exact D.top
  rw [vm (d:=d) (.inl (by omega)) (by omega),List.append_nil]
  by_cases hs:0<(ld m d.Base-(d.B-1#64)).toInt
  ·have hs':=hs
   rw [eT,eB] at hs'
   have:=(zlT (by omega) (by omega)).1 hs'
   have el:l=[]:=by cases l with | nil=>rfl | cons a l=>rw [List.length_cons] at this;omega
   rw [if_pos hs]
   refine ⟨t,l,c,D,fun _ _ _=>rfl,Dv.refl _ _,Nat.le_refl _,.inl ⟨K.out,⟨k,K.base,K.size,K.out,⟨by dsimp only;omega,by dsimp only;omega⟩,fun e=>by dsimp only at e;omega,fun _=>hc',fun _=>hB,fun e=>by dsimp only at e;omega,fun e=>by dsimp only at e;omega,fun e=>by dsimp only at e;omega,fun e=>by dsimp only at e;omega,fun e=>by dsimp only at e;omega,fun _=>el⟩,?_⟩⟩
   rw [vm (.inl (by dsimp only;omega)) (by dsimp only;omega),List.append_nil]
  ·have hs':=hs
   rw [eT,eB] at hs'
   have hle: ¬(t+l.length-1<t):=fun e=>hs' ((zlT (by omega) (by omega)).2 e)
   rw [if_neg hs]
   by_cases h1:l.length=1
   ·have e3:ld m d.Base=d.B-1#64:=by rw [eT,eB];congr 1;omega
    refine ⟨t,l,c,D,fun _ _ _=>rfl,Dv.refl _ _,Nat.le_refl _,.inl ⟨K.out,⟨k,K.base,K.size,K.out,⟨by dsimp only;omega,by dsimp only;omega⟩,fun e=>by dsimp only at e;omega,fun e=>by dsimp only at e;omega,fun _=>hB,fun _ _=>hc',fun _ e=>absurd e3 e,fun _=>by dsimp only;rw [eT,u7 (by omega)];exact Nat.le_refl _,fun e=>by dsimp only at e;omega,fun e=>by dsimp only at e;omega,fun e=>by dsimp only at e;omega⟩,?_⟩⟩
    rw [vm (.inr e3) (by dsimp only;omega),List.append_nil]
   ·-- the last one is the owner's
    have h2:2≤l.length:=by omega
    have e3:ld m d.Base≠d.B-1#64:=by
     rw [eT,eB]
     intro e
     have:=zwF (by omega) (by omega) e
     omega
    have hne:l≠[]:=fun e=>by rw [e] at h2;simp at h2
    have hdl:l.dropLast.length=l.length-1:=List.length_dropLast
    refine ⟨t,l.dropLast,0,⟨D.top,?_,by omega,ht1,by have:=D.cap;omega,by omega,fun i hi=> ?_⟩,fun _ _ _=>rfl,⟨Nat.le_refl _,fun _ _=>⟨fun e=> ?_,?_⟩⟩,by omega,.inl ⟨K.out,⟨k,K.base,K.size,K.out,⟨by dsimp only;omega,by dsimp only;omega⟩,fun e=>by dsimp only at e;omega,fun e=>by dsimp only at e;omega,fun e=> ?_,fun _ e=>absurd e e3,fun _ _=>⟨rfl,?_,by omega,by have:=D.cap;omega⟩,fun _=>by dsimp only;rw [eT,u7 (by omega)];exact Nat.le_refl _,fun e=>by dsimp only at e;omega,fun e=>by dsimp only at e;omega,fun e=>by dsimp only at e;omega⟩,?_⟩⟩
    ·rw [D.bot,hc',hdl];congr 1;omega
    ·rw [D.cell i (by omega)]
     exact (List.getElem_dropLast ..).symm
    ·have:=congrArg List.length e;rw [hdl] at this;simp at this;omega
    ·cases l with
     | nil=>exact absurd rfl hne
     | cons a l=>cases l with
      | nil=>simp at h2
      | cons b l=>rfl
    ·rcases e with e | e | e | ⟨_,e⟩
     ·dsimp only at e;omega
     ·dsimp only at e;omega
     ·dsimp only at e;omega
     ·exact absurd e e3
    ·dsimp only;rw [hB,hdl];congr 1;omega
    ·unfold Y0
     rw [if_pos ⟨rfl,e3⟩]
     dsimp only
     have ep:W2 {d with T:=ld m d.Base,PC:=3} (d.B-1#64)=Zf p w (t+(l.length-1)):=by
      rw [eB]
      have:=zhP h (d:={d with T:=ld m d.Base,PC:=3}) hw K.base K.size (i:=t+l.length-1) (by omega)
      rw [this];congr 1;omega
     rw [ep,D.cell (l.length-1) (by omega)]
     have:=List.dropLast_concat_getLast hne
     rw [List.getLast_eq_getElem] at this
     rw [this]
 rw [if_neg p2]
 by_cases p3:d.PC=3
 ·rw [if_pos p3]
  by_cases e3:d.T=d.B-1#64
  ·rw [if_pos e3]
   have hB:=K.b (.inr (.inr (.inr ⟨p3,e3⟩)))
   have hc':=K.c3 p3 e3
   have eB:d.B-1#64=BitVec.ofNat 64 (t+l.length-1):=by rw [hB,one,zh0 (by omega) (by omega)]
   refine ⟨t,l,c,D,fun _ _ _=>rfl,Dv.refl _ _,Nat.le_refl _,.inl ⟨K.out,⟨k,K.base,K.size,K.out,⟨by dsimp only;omega,by dsimp only;omega⟩,fun e=>by dsimp only at e;omega,fun _=>hc',fun _=>hB,fun e=>by dsimp only at e;omega,fun e=>by dsimp only at e;omega,fun _=>K.t3 (.inl p3),fun _=>e3,fun _ e=> ?_,fun e=>by dsimp only at e;omega⟩,?_⟩⟩
   ·have e:d.T.toNat=t:=e
    rw [e3,eB,u7 (by omega)] at e
    have h1:l.length=1:=by omega
    have:=D.cell 0 (by omega)
    dsimp only
    rw [eB,zhP h hw K.base K.size (by omega),show t+l.length-1=t+0 by omega,this]
    match l,h1 with
    | [a],_=>rfl
   ·rw [vm (.inl (by dsimp only;omega)) (by dsimp only;omega),vm (.inr e3) (by omega)]
  ·rw [if_neg e3]
   obtain ⟨a1,a2,a3,a4⟩:=K.n3 p3 e3
   refine ⟨t,l,c,D,fun _ _ _=>rfl,Dv.refl _ _,Nat.le_refl _,.inr (.inl ⟨rfl,a1,?_⟩)⟩
   unfold Y0
   rw [if_pos ⟨p3,e3⟩]
 rw [if_neg p3]
 by_cases p4:d.PC=4
 ·rw [if_pos p4]
  have hB:=K.b (.inr (.inr (.inl (by omega))))
  have hc':=K.c1 (.inr (by omega))
  have e3:=K.t4 p4
  have ht:=K.t3 (.inr p4)
  have eB:d.B-1#64=BitVec.ofNat 64 (t+l.length-1):=by rw [hB,one,zh0 (by omega) (by omega)]
  have eT:d.T.toNat=t+l.length-1:=by rw [e3,eB,u7 (by omega)]
  rw [vm (d:=d) (.inl (by omega)) (by omega),List.append_nil]
  by_cases hs:ld m d.Base=d.T
  ·have hsw:sw m d.Base d.T (d.T+1#64)=(st m d.Base (d.T+1#64),true):=by unfold sw;rw [if_pos ⟨by rw [K.base];omega,by rw [K.base];omega,hs⟩]
   have et:d.T.toNat=t:=by rw [←hs,K.base,D.top,u7 (by omega)]
   have el:=K.x4 p4 et
   rw [hsw]
   have eT':d.T=BitVec.ofNat 64 t:=by rw [←hs,K.base,D.top]
   have hl1:l.length=1:=by rw [el];rfl
   refine ⟨t+1,[],1,⟨?_,?_,by omega,by omega,by simp,by simp;omega,fun i hi=>by simp at hi⟩,fun a h1 _=> ?_,⟨by omega,fun e=>by omega⟩,by simp;omega,.inl ⟨K.out,⟨k,K.base,K.size,K.out,⟨by dsimp only;simp,by dsimp only;simp⟩,fun e=>by simp at e,fun _=>rfl,fun _=> ?_,fun e=>by simp at e,fun e=>by simp at e,fun e=>by simp at e,fun e=>by simp at e,fun e=>by simp at e,fun _=>rfl⟩,?_⟩⟩
   ·dsimp only
    rw [K.base,Xp,if_pos ⟨rfl,by omega,by omega⟩,eT']
    exact zlR (by omega)
   ·dsimp only
    rw [K.base,yo (by omega),D.bot,hc',hl1];rfl
   ·dsimp only
    rw [K.base,yo (fun e=>h1 e.symm)]
   ·dsimp only;rw [hB,hl1];rfl
   ·unfold Y0
    rw [if_neg (fun e=>by simp at e),if_pos (by simp)]
    rw [el];exact List.Perm.refl _
  ·have hsw:sw m d.Base d.T (d.T+1#64)=(m,false):=by unfold sw;rw [if_neg (fun e=>hs e.2.2)]
   rw [hsw]
   have hne:d.T.toNat≠t:=fun e=>hs (by rw [K.base,D.top];apply BitVec.eq_of_toNat_eq;rw [u7 (by omega)];exact e.symm)
   have el:l=[]:=by cases l with | nil=>rfl | cons a l=>rw [List.length_cons] at eT;omega
   refine ⟨t,l,c,D,fun _ _ _=>rfl,Dv.refl _ _,Nat.le_refl _,.inl ⟨K.out,⟨k,K.base,K.size,K.out,⟨by dsimp only;simp,by dsimp only;simp⟩,fun e=>by simp at e,fun _=>hc',fun _=>hB,fun e=>by simp at e,fun e=>by simp at e,fun e=>by simp at e,fun e=>by simp at e,fun e=>by simp at e,fun _=>el⟩,?_⟩⟩
   rw [vm (.inl (by simp)) (by simp),List.append_nil]
 rw [if_neg p4]
 have hB:=K.b (.inr (.inr (.inl (by omega))))
 have el:=K.e5 (by omega)
 obtain ⟨D',hm⟩:=stb 0 d.B (by omega) (by rw [hB];rfl)
 by_cases p5:d.PC=5
 ·rw [if_pos p5]
  exact ⟨t,l,0,D',hm,Dv.refl _ _,Nat.le_refl _,.inr (.inr ⟨rfl,rfl,el,el,vm (.inl (by omega)) (by omega)⟩)⟩
 ·rw [if_neg p5]
  refine ⟨t,l,0,D',hm,Dv.refl _ _,Nat.le_refl _,.inr (.inl ⟨rfl,rfl,?_⟩)⟩
  unfold Y0
  rw [if_neg (fun e=>p3 e.1),if_pos (show d.PC=6 by omega)]
theorem PK.stolen {p:zb} {m m':List (BitVec 64)} (h:zE p) {w:Int} (hw:1≤w∧w≤p.Workers) {t c:Nat} {x:Int} {l:List Int} {d:zh} (K:PK p m w t (x::l) c d):PK p m' w (t+1) l c d:=by
 have e:t+(x::l).length=t+1+l.length:=by rw [List.length_cons];omega
 refine ⟨K.kind,K.base,K.size,K.out,K.pc,K.c0,K.c1,fun q=>by rw [←e];exact K.b q,K.c3,fun a b=> ?_,fun a=>Nat.le_succ_of_le (K.t3 a),K.t4,fun a b=> ?_,fun a=> ?_⟩
 ·have:=K.n3 a b
  rw [e] at this
  rw [List.length_cons] at this
  exact ⟨this.1,this.2.1,this.2.2.1,by omega⟩
 ·have:=K.t3 (.inr a);omega
 ·have:=K.e5 a;cases this
theorem DK.stolen {p:zb} {m m':List (BitVec 64)} {w:Int} {t c:Nat} {x:Int} {l:List Int} {d:zh} (K:DK p m w t (x::l) c d) (hm: ∀a,a≠zN p w→ld m' a=ld m a) (h:zE p):DK p m' w (t+1) l c d:=by
 have e:t+(x::l).length=t+1+l.length:=by rw [List.length_cons];omega
 refine ⟨K.kind,K.base,K.size,K.out,K.c0,K.pc,fun q=>by rw [←e];exact K.b q,fun q=>by have:=K.r q;rw [List.length_cons] at this;omega,fun q=> ?_⟩
 rw [←e,hm _ (by unfold Zf;omega)]
 exact K.x q
theorem PK.keep {p:zb} {m m':List (BitVec 64)} {w:Int} {t c:Nat} {l:List Int} {d:zh} (K:PK p m w t l c d):PK p m' w t l c d :=
 ⟨K.kind,K.base,K.size,K.out,K.pc,K.c0,K.c1,K.b,K.c3,K.n3,K.t3,K.t4,K.x4,K.e5⟩
theorem DK.keep {p:zb} (h:zE p) {m m':List (BitVec 64)} {w:Int} {t c:Nat} {l:List Int} {d:zh} (K:DK p m w t l c d) (hm: ∀a,zN p w+1<a→a<zN p w+p.Cap+2→ld m' a=ld m a):DK p m' w t l c d:=by
 have hc:=h.cap
 have:=Nat.mod_lt (t+l.length) (show 0<p.Cap.toNat by omega)
 exact ⟨K.kind,K.base,K.size,K.out,K.c0,K.pc,K.b,K.r,fun q=>by rw [hm _ (by unfold Zf;omega) (by unfold Zf;omega)];exact K.x q⟩
theorem zro {p:zb} (h:zE p) {m:List (BitVec 64)} {w:Int} {t c:Nat} {l:List Int} {d:zh} (hw:1≤w∧w≤p.Workers) (hlen:z7 p≤m.length) (D:DQ p m w t l c) (K:DK p m w t l c d) (hs:t+l.length+1<4294967296) (hX: -9223372036854775808≤d.X∧d.X<9223372036854775808) :
  (∀a,(a<zN p w∨zN p w+p.Cap+2≤a)→ld (yP m d).1 a=ld m a)∧(yP m d).2.X=d.X ∧
  (((yP m d).2.Out=0∧DQ p (yP m d).1 w t l 0∧DK p (yP m d).1 w t l 0 (yP m d).2) ∨
   ((yP m d).2.Out=3∧DQ p (yP m d).1 w t l 0) ∨
   ((yP m d).2.Out=1∧DQ p (yP m d).1 w t (l++[d.X]) 0)):=by
 have hc:=h.cap
 have hd:=Yh h hw.1 hw.2
 have hf:=Zo h
 have hmod: ∀i,zN p w+2≤Zf p w i∧Zf p w i<zN p w+p.Cap+2:=fun i=>by
  have:=Nat.mod_lt i (show 0<p.Cap.toNat by omega)
  unfold Zf;omega
 have hpc:=K.pc
 have c00:=K.c0
 subst c00
 have ht1:=D.t1
 have hsm:=D.small
 have eb:wc (d.Base+1)=zN p w+1:=by rw [K.base,xq (by omega) (by omega)]
 unfold yP
 rw [if_neg (by have:=K.out;omega),eb]
 by_cases c0:d.PC=0
 ·rw [if_pos c0]
  exact ⟨fun _ _=>rfl,rfl,.inl ⟨K.out,D,⟨K.kind,K.base,K.size,K.out,rfl,⟨by dsimp only;omega,by dsimp only;omega⟩,fun _=>D.bot,fun e=>by dsimp only at e;omega,fun e=>by dsimp only at e;omega⟩⟩⟩
 rw [if_neg c0]
 by_cases c1:d.PC=1
 ·rw [if_pos c1]
  refine ⟨fun _ _=>rfl,by dsimp only;split<;>rfl,?_⟩
  have hB:=K.b (by omega)
  have es:(WH d).toNat=p.Cap.toNat:=by
   unfold WH
   rw [K.size,if_neg (by omega),BitVec.toNat_ofInt]
   omega
  have ed:(d.B-ld m d.Base).toNat=l.length:=by
   rw [hB,K.base,D.top,BitVec.toNat_sub,u7 (by omega),u7 (by omega)]
   omega
  split
  ·right;left
   exact ⟨rfl,D⟩
  ·rename_i hlt
   left
   have hr:l.length<p.Cap.toNat:=by
    have: ¬(WH d).toNat≤(d.B-ld m d.Base).toNat:=fun e=>hlt (BitVec.le_def.2 e)
    omega
   exact ⟨K.out,D,⟨K.kind,K.base,K.size,K.out,rfl,⟨by dsimp only;omega,by dsimp only;omega⟩,fun _=>hB,fun _=>hr,fun e=>by dsimp only at e;omega⟩⟩
 rw [if_neg c1]
 have hB:=K.b (by omega)
 have hr:=K.r (by omega)
 by_cases c2:d.PC=2
 ·rw [if_pos c2]
  have ep:W2 d d.B=Zf p w (t+l.length):=by rw [hB];exact zhP h hw K.base K.size (by omega)
  rw [ep]
  have hm:=hmod (t+l.length)
  refine ⟨fun a ha=>yo (by omega),rfl,.inl ⟨K.out,⟨?_,?_,D.c1,ht1,D.cap,D.small,fun i hi=> ?_⟩,⟨K.kind,K.base,K.size,K.out,rfl,⟨by dsimp only;omega,by dsimp only;omega⟩,fun _=>hB,fun _=>hr,fun _=> ?_⟩⟩⟩
  ·dsimp only;rw [yo (by omega)];exact D.top
  ·dsimp only;rw [yo (by omega)];exact D.bot
  ·dsimp only
   rw [yo (fun e=>zxZ (t:=t) (i:=t+i) (n:=t+l.length) (c:=p.Cap.toNat) (by omega) (by omega) (by omega) (by unfold Zf at e;omega))]
   exact D.cell i hi
  ·dsimp only
   rw [Xp,if_pos ⟨rfl,by omega,by omega⟩,BitVec.toInt_ofInt,Int.bmod_def]
   omega
 ·rw [if_neg c2]
  have hx:=K.x (by omega)
  refine ⟨fun a ha=>yo (by omega),rfl,.inr (.inr ⟨rfl,⟨?_,?_,by omega,ht1,?_,?_,fun i hi=> ?_⟩⟩)⟩
  ·dsimp only;rw [yo (by omega)];exact D.top
  ·dsimp only
   rw [Xp,if_pos ⟨rfl,by omega,by omega⟩,hB,List.length_append]
   exact zlR (by omega)
  ·rw [List.length_append];show l.length+1≤_;omega
  ·rw [List.length_append];show t+(l.length+1)<_;omega
  ·dsimp only
   have hi':i<l.length+1:=by rw [List.length_append] at hi;exact hi
   have hm:=hmod (t+i)
   rw [yo (by omega)]
   rcases Nat.lt_or_ge i l.length with g | g
   ·rw [List.getElem_append_left g];exact D.cell i g
   ·have:i=l.length:=by omega
    subst this
    rw [List.getElem_append_right (by omega)]
    simp only [Nat.sub_self,List.getElem_cons_zero]
    exact hx
end
end Go.Pe.G
namespace Go.Pe.G
open Go.Pe
noncomputable section
def yZ (h:BitVec 64):Nat:=h.toNat/4294967296
theorem zol (v:BitVec 64) {n:Int} (h:0≤n) (h2:n<4294967296):(yU v n).toNat=(v.toNat%4294967296)*4294967296+n.toNat:=by
 unfold yU
 have e3:(BitVec.ofInt 64 n).toNat&&&(4294967295#64).toNat=n.toNat:=by
  have:(BitVec.ofInt 64 n).toNat=n.toNat:=by rw [BitVec.toNat_ofInt];omega
  rw [this]
  exact (Nat.and_two_pow_sub_one_eq_mod n.toNat 32).trans (Nat.mod_eq_of_lt (by omega))
 rw [BitVec.toNat_or,BitVec.toNat_and,e3,BitVec.toNat_shiftLeft]
 have h2':v.toNat <<< 32%2 ^ 64=(v.toNat%4294967296) <<< 32:=by rw [Nat.shiftLeft_eq,Nat.shiftLeft_eq];omega
 rw [h2',←Nat.shiftLeft_add_eq_or_of_lt (show n.toNat<2 ^ 32 by omega),Nat.shiftLeft_eq]
theorem zr3 (h:BitVec 64) {n:Int} (h1:0≤n) (h2:n<4294967296) (hv:yZ h+1<4294967296):yZ (yU ((h >>> 32)+1#64) n)=yZ h+1:=by
 have e:((h >>> 32)+1#64).toNat=yZ h+1:=by
  rw [BitVec.toNat_add,BitVec.toNat_ushiftRight,Nat.shiftRight_eq_div_pow]
  show (h.toNat/4294967296+1)%2 ^ 64=_
  unfold yZ at hv ⊢
  omega
 unfold yZ
 rw [zol _ h1 h2,e]
 unfold yZ at hv ⊢
 omega
def Chn (m:List (BitVec 64)) (N:Int) (nb:Nat):Int→List Int→Prop
 | h,[]=>h=0
 | h,x::l=>h=x∧1≤x∧x<nb∧Chn m N nb (ld m (N+x)).toInt l
theorem Chn.mem {m:List (BitVec 64)} {N:Int} {nb:Nat}: ∀ {l:List Int} {h:Int},Chn m N nb h l→∀x∈l,1≤x∧x<nb
 | y::l,h,c,x,hx=>by
  rcases List.mem_cons.1 hx with rfl | hx
  ·exact ⟨c.2.1,c.2.2.1⟩
  ·exact Chn.mem c.2.2.2 x hx
theorem Chn.st {m:List (BitVec 64)} {N:Int} {nb:Nat} {a:Int} {v:BitVec 64}: ∀ {l:List Int} {h:Int},Chn m N nb h l→(∀x∈l,a≠N+x)→Chn (st m a v) N nb h l
 | [],h,c,_=>c
 | y::l,h,c,hn=>⟨c.1,c.2.1,c.2.2.1,by
  rw [yo (hn y (by simp))]
  exact Chn.st c.2.2.2 (fun x hx=>hn x (List.mem_cons_of_mem _ hx))⟩
theorem Chn.head {m:List (BitVec 64)} {N:Int} {nb:Nat} {l:List Int} {h:Int} (c:Chn m N nb h l) (hh:h≠0): ∃t,l=h::t∧1≤h∧h<nb∧Chn m N nb (ld m (N+h)).toInt t:=by
 cases l with
 | nil=>exact absurd c hh
 | cons x t =>
  obtain ⟨rfl,h1,h2,h3⟩:=c
  exact ⟨t,rfl,h1,h2,h3⟩
theorem Chn.empty {m:List (BitVec 64)} {N:Int} {nb:Nat} {l:List Int} (c:Chn m N nb 0 l):l=[]:=by
 cases l with
 | nil=>rfl
 | cons x t=>have:=c.1;have:=c.2.1;omega
def zkK (nb:Nat):List Int:=(List.range (nb-1)).map (fun (i:Nat)=>(i:Int)+1)
theorem zm4 (nb:Nat):(zkK nb).Nodup:=by
 unfold zkK
 rw [List.Nodup,List.pairwise_map]
 exact List.nodup_range.imp (fun h e=>h (by omega))
theorem zrb {nb:Nat} {x:Int}:x∈zkK nb↔1≤x∧x<nb:=by
 unfold zkK
 rw [List.mem_map]
 constructor
 ·rintro ⟨i,hi,rfl⟩
  have:=List.mem_range.1 hi
  omega
 ·rintro ⟨h1,h2⟩
  exact ⟨(x-1).toNat,List.mem_range.2 (by omega),by omega⟩
structure LI (p:zb) (nb:Nat) (m:List (BitVec 64)) (h1 h2:Int) (F E own:List Int):Prop where
 hs:(h1=z7 p∧h2=zD p)∨(h1=zD p∧h2=z7 p)
 cF:Chn m (zD p) nb (yq (ld m h1)) F
 cE:Chn m (zD p) nb (yq (ld m h2)) E
 all:List.Perm (F++E++own) (zkK nb)
 len:zD p+nb≤m.length
theorem LI.nodup {p:zb} {nb:Nat} {m:List (BitVec 64)} {h1 h2:Int} {F E own:List Int} (h:LI p nb m h1 h2 F E own):(F++E++own).Nodup:=h.all.nodup_iff.2 (zm4 nb)
theorem LI.notF {p:zb} {nb:Nat} {m:List (BitVec 64)} {h1 h2:Int} {F E own:List Int} (h:LI p nb m h1 h2 F E own) {x:Int} (hx:x∈own):x∉F∧x∉E:=by
 have:=List.nodup_append.1 h.nodup
 exact ⟨fun e=>this.2.2 x (List.mem_append_left _ e) x hx rfl,fun e=>this.2.2 x (List.mem_append_right _ e) x hx rfl⟩
theorem LI.own_in {p:zb} {nb:Nat} {m:List (BitVec 64)} {h1 h2:Int} {F E own:List Int} (h:LI p nb m h1 h2 F E own) {x:Int} (hx:x∈own):1≤x∧x<nb:=zrb.1 (h.all.subset (List.mem_append_right _ hx))
structure CK (p:zb) (m:List (BitVec 64)) (c:zB):Prop where
 v:1≤c.PC→yZ c.H≤yZ (ld m c.Head)
 y:c.PC=2→c.Kind=2→ld m c.Head=c.H→c.Y=(ld m (zD p+yq c.H)).toInt
 l:c.PC=2→c.Kind=1→ld m (zD p+c.X)=BitVec.ofInt 64 (yq c.H)
structure Mv (p:zb) (nb:Nat) (X:List Int) (m m':List (BitVec 64)):Prop where
 hd: ∀h,h=z7 p∨h=zD p→yZ (ld m h)≤yZ (ld m' h)∧(ld m' h=ld m h∨yZ (ld m h)<yZ (ld m' h))
 nx: ∀x:Int,1≤x→x<nb→x∉X→ld m' (zD p+x)=ld m (zD p+x)
theorem Mv.refl (p:zb) (nb:Nat) (X:List Int) (m:List (BitVec 64)):Mv p nb X m m:=⟨fun h _=>⟨Nat.le_refl _,.inl rfl⟩,fun _ _ _ _=>rfl⟩
theorem CK.mv {p:zb} {nb:Nat} {m m':List (BitVec 64)} {h1 h2:Int} {F E own X:List Int} {c:zB} (k:CK p m c) (L:LI p nb m h1 h2 F E own) (M:Mv p nb X m m') (hX: ∀x∈X,x∈own)
  (hh:c.Head=h1∨c.Head=h2) (hn:1≤c.PC→c.Kind=2→1≤yq c.H∧yq c.H<nb) (hx:c.Kind=1→1≤c.X∧c.X<nb∧c.X∉X):CK p m' c:=by
 obtain ⟨m1,m2⟩:=M.hd c.Head (by rcases L.hs with g | g<;>rcases hh with hh | hh<;>rw [hh]<;>simp [g])
 refine ⟨fun h=>Nat.le_trans (k.v h) m1,fun h2 hk e=> ?_,fun h2 hk=> ?_⟩
 ·have hv:=k.v (by omega)
  have e':ld m c.Head=c.H:=by
   rcases m2 with m2 | m2
   ·rw [←m2];exact e
   ·rw [e] at m2;omega
  obtain ⟨n1,n2⟩:=hn (by omega) hk
  rw [M.nx _ n1 n2 (fun hmem=> ?_)]
  ·exact k.y h2 hk e'
  ·obtain ⟨f1,f2⟩:=L.notF (hX _ hmem)
   rcases hh with hh | hh
   ·obtain ⟨t,ht,_⟩:=L.cF.head (by rw [←hh,e'];omega)
    rw [←hh,e'] at ht
    exact f1 (by rw [ht];simp)
   ·obtain ⟨t,ht,_⟩:=L.cE.head (by rw [←hh,e'];omega)
    rw [←hh,e'] at ht
    exact f2 (by rw [ht];simp)
 ·obtain ⟨x1,x2,x3⟩:=hx hk
  rw [M.nx _ x1 x2 x3]
  exact k.l h2 hk
theorem LI.swap {p:zb} {nb:Nat} {m:List (BitVec 64)} {h1 h2:Int} {F E own:List Int} (h:LI p nb m h1 h2 F E own):LI p nb m h2 h1 E F own :=
 ⟨h.hs.elim (fun g=> .inr ⟨g.2,g.1⟩) (fun g=> .inl ⟨g.2,g.1⟩),h.cE,h.cF,(List.perm_append_comm.append_right own).trans h.all,h.len⟩
theorem zmh {p:zb} (hp:zE p) {m:List (BitVec 64)} {a x:Int} {v:BitVec 64} (ha:a=z7 p∨a=zD p) (hx:1≤x):ld (st m a v) (zD p+x)=ld m (zD p+x):=by
 have:=wn hp
 exact yo (by omega)
theorem Chn.st_head {p:zb} (hp:zE p) {m:List (BitVec 64)} {nb:Nat} {a h:Int} {l:List Int} {v:BitVec 64} (ha:a=z7 p∨a=zD p) (c:Chn m (zD p) nb h l):Chn (Go.Pe.G.st m a v) (zD p) nb h l:=by
 have:=wn hp
 exact c.st (fun x hx=>by have:=(c.mem x hx).1;omega)
theorem Mv.head {p:zb} (hp:zE p) {nb:Nat} {X:List Int} {m:List (BitVec 64)} {a:Int} {v:BitVec 64} (ha:a=z7 p∨a=zD p) (hv:yZ (ld m a)<yZ v):Mv p nb X m (st m a v):=by
 refine ⟨fun h hh=> ?_,fun x hx _ _=>zmh hp ha hx⟩
 by_cases e:a=h
 ·subst e
  rw [Xp]
  split
  ·exact ⟨by omega,.inr hv⟩
  ·exact ⟨Nat.le_refl _,.inl rfl⟩
 ·rw [yo e];exact ⟨Nat.le_refl _,.inl rfl⟩
theorem ztd {p:zb} (hp:zE p) {nb:Nat} (hnb:nb<1000) {m:List (BitVec 64)} {h1 h2:Int} {F E own:List Int} (L:LI p nb m h1 h2 F E own) {c:zB}
  (hk:c.Kind=2) (hh:c.Head=h1) (hN:c.Next=zD p) (ho:c.Out=0) (hpc:0≤c.PC∧c.PC≤2) (K:CK p m c) (hn:1≤c.PC→1≤yq c.H∧yq c.H<nb) (hv:yZ (ld m h1)+1<4294967296) :
  ((zk m c).1=m∧(zk m c).2.Out≠1∧((zk m c).2.Out=2→F=[])∧CK p m (zk m c).2) ∨
  (∃x F',F=x::F'∧(zk m c).2.Out=1∧(zk m c).2.X=x∧LI p nb (zk m c).1 h1 h2 F' E (x::own)∧Mv p nb [] m (zk m c).1∧yZ (ld (zk m c).1 h1)=yZ (ld m h1)+1∧ld (zk m c).1 h2=ld m h2):=by
 have hE:=wn hp
 have hF:=Zo hp
 have hd:h1=z7 p∨h1=zD p:=by rcases L.hs with g | g<;>simp [g]
 unfold zk
 rw [if_neg (by omega)]
 by_cases c0:c.PC=0
 ·rw [if_pos c0]
  left
  split
  ·rename_i e
   refine ⟨rfl,(by show (2:Int)≠1;decide),fun _=> ?_,⟨fun _=>by rw [hh];exact Nat.le_refl _,fun e2=>(by cases e2),fun e2=>(by cases e2)⟩⟩
   have:=L.cF
   rw [hh] at e
   rw [e.2] at this
   exact this.empty
  ·refine ⟨rfl,by dsimp only;omega,fun e=>by dsimp only at e;omega,⟨fun _=>by rw [hh];exact Nat.le_refl _,fun e2=>(by cases e2),fun e2=>(by cases e2)⟩⟩
 ·rw [if_neg c0]
  by_cases c1:c.PC=1
  ·rw [if_pos c1,if_pos hk]
   left
   refine ⟨rfl,by dsimp only;omega,fun e=>by dsimp only at e;omega,⟨fun _=>K.v (by omega),fun _ _ _=> ?_,fun _ e=>by dsimp only at e;omega⟩⟩
   have:=hn (by omega)
   dsimp only
   rw [hN,xq (by omega) (by omega)]
  ·rw [if_neg c1]
   have c2:c.PC=2:=by omega
   simp only [if_pos hk]
   by_cases hs:0≤c.Head∧c.Head<m.length∧ld m c.Head=c.H
   ·right
    have n:=hn (by omega)
    have hsw:sw m c.Head c.H (yU (c.H >>> 32+1#64) c.Y)=(st m c.Head (yU (c.H >>> 32+1#64) c.Y),true):=by unfold sw;rw [if_pos hs]
    rw [hsw]
    have hc:=L.cF
    rw [←hh,hs.2.2] at hc
    obtain ⟨t,ht,_,_,hct⟩:=hc.head (by omega)
    have hy:=K.y c2 hk hs.2.2
    have hct':=hct
    rw [←hy] at hct'
    have y0:0≤c.Y∧c.Y<nb:=by
     cases t with
     | nil=>have e:c.Y=0:=hct';omega
     | cons z t=>have:=hct'.1;have:=hct'.2.1;have:=hct'.2.2.1;omega
    have vp:yZ (yU (c.H >>> 32+1#64) c.Y)=yZ c.H+1:=zr3 c.H y0.1 (by omega) (by rw [←hs.2.2,hh];exact hv)
    have hcH:yZ c.H=yZ (ld m h1):=by rw [←hs.2.2,hh]
    have ld1:ld (st m h1 (yU (c.H >>> 32+1#64) c.Y)) h1=yU (c.H >>> 32+1#64) c.Y:=by rw [Xp,if_pos ⟨rfl,by rw [←hh];exact hs.1,by rw [←hh];exact hs.2.1⟩]
    have h12:h1≠h2:=by rcases L.hs with g | g<;>omega
    refine ⟨yq c.H,t,ht,rfl,rfl,?_,?_,?_,?_⟩
    ·rw [hh]
     refine ⟨L.hs,?_,?_,?_,by rw [Zl];exact L.len⟩
     ·rw [ld1,zbx _ y0.1 (by omega)]
      exact hct'.st_head hp hd
     ·rw [yo h12]
      exact L.cE.st_head hp hd
     ·refine List.Perm.trans ?_ L.all
      rw [ht]
      show List.Perm (t++E++yq c.H::own) (yq c.H::(t++E++own))
      exact List.perm_middle
    ·rw [hh]
     exact Mv.head hp hd (by rw [vp,hcH];omega)
    ·rw [hh,ld1,vp,hcH]
    ·rw [hh,yo h12]
   ·left
    have hsw:sw m c.Head c.H (yU (c.H >>> 32+1#64) c.Y)=(m,false):=by unfold sw;rw [if_neg hs]
    rw [hsw]
    refine ⟨rfl,by dsimp only;simp;omega,fun e=>by simp at e;omega,⟨fun e=>by simp at e,fun e=>by simp at e,fun e=>by simp at e⟩⟩
theorem ztE {n:Int} (h:0≤n) (h2:n<4294967296):(BitVec.ofInt 64 n).toInt=n:=toInt_ofInt h h2
theorem zjE {N a b:Int} (h:N+a=N+b):b=a:=by omega
theorem zqP {p:zb} (hp:zE p) {nb:Nat} (hnb:nb<1000) {m:List (BitVec 64)} {h1 h2 b:Int} {F E o1 o2:List Int} (L:LI p nb m h1 h2 F E (o1++b::o2)) {c:zB}
  (hk:c.Kind=1) (hh:c.Head=h1) (hN:c.Next=zD p) (hX:c.X=b) (ho:c.Out=0) (hpc:0≤c.PC∧c.PC≤2) (K:CK p m c) (hn:1≤c.PC→yq c.H<nb) (hv:yZ (ld m h1)+1<4294967296) :
  ((zk m c).2.Out=0∧LI p nb (zk m c).1 h1 h2 F E (o1++b::o2)∧Mv p nb [b] m (zk m c).1∧CK p (zk m c).1 (zk m c).2∧(∀a,a≤zD p→ld (zk m c).1 a=ld m a)) ∨
  ((zk m c).2.Out=1∧LI p nb (zk m c).1 h1 h2 (b::F) E (o1++o2)∧Mv p nb [] m (zk m c).1∧yZ (ld (zk m c).1 h1)=yZ (ld m h1)+1∧(∀a,a≤zD p→a≠h1→ld (zk m c).1 a=ld m a)):=by
 have hE:=wn hp
 have hF:=Zo hp
 have hd:h1=z7 p∨h1=zD p:=by rcases L.hs with g | g<;>simp [g]
 have hd2:h2=z7 p∨h2=zD p:=by rcases L.hs with g | g<;>simp [g]
 have hb:1≤b∧b<nb:=L.own_in (List.mem_append_right _ (by simp))
 have hbn:=L.notF (x:=b) (List.mem_append_right _ (by simp))
 have hlen:=L.len
 have hk2: ¬c.Kind=2:=by omega
 unfold zk
 rw [if_neg (by omega)]
 by_cases c0:c.PC=0
 ·rw [if_pos c0,if_neg (fun e=>hk2 e.1)]
  left
  exact ⟨ho,L,Mv.refl _ _ _ _,⟨fun _=>by rw [hh];exact Nat.le_refl _,fun e2=>(by cases e2),fun e2=>(by cases e2)⟩,fun _ _=>rfl⟩
 ·rw [if_neg c0]
  by_cases c1:c.PC=1
  ·rw [if_pos c1,if_neg hk2]
   left
   have nn:=zh8 c.H
   have ea:wc (c.Next+c.X)=zD p+b:=by rw [hN,hX,xq (by omega) (by omega)]
   rw [ea]
   have hne: ∀h,h=z7 p∨h=zD p→ld (st m (zD p+b) (BitVec.ofInt 64 (yq c.H))) h=ld m h:=fun h hh=>yo (by omega)
   refine ⟨ho,⟨L.hs,?_,?_,L.all,by dsimp only;rw [Zl];exact hlen⟩,⟨fun h hh=> ?_,fun x x1 x2 x3=> ?_⟩,⟨fun _=> ?_,fun _ e=>absurd e hk2,fun _ _=> ?_⟩,fun a ha=> ?_⟩
   ·dsimp only
    rw [hne _ hd]
    exact L.cF.st (fun x hx e=>hbn.1 (zjE e▸hx))
   ·dsimp only
    rw [hne _ hd2]
    exact L.cE.st (fun x hx e=>hbn.2 (zjE e▸hx))
   ·dsimp only
    rw [hne _ hh];exact ⟨Nat.le_refl _,.inl rfl⟩
   ·dsimp only
    exact yo (fun e=>x3 (List.mem_singleton.2 (zjE e)))
   ·dsimp only
    rw [hh,hne _ hd,←hh];exact K.v (by omega)
   ·dsimp only
    rw [hX,Xp,if_pos ⟨rfl,by omega,by omega⟩]
   ·dsimp only
    exact yo (by omega)
  ·rw [if_neg c1]
   have c2:c.PC=2:=by omega
   simp only [if_neg hk2]
   by_cases hs:0≤c.Head∧c.Head<m.length∧ld m c.Head=c.H
   ·right
    have n:=hn (by omega)
    have nn:=zh8 c.H
    have hsw:sw m c.Head c.H (yU (c.H >>> 32+1#64) c.X)=(st m c.Head (yU (c.H >>> 32+1#64) c.X),true):=by unfold sw;rw [if_pos hs]
    rw [hsw]
    have hl:=K.l c2 hk
    rw [hX] at hl
    have vp:yZ (yU (c.H >>> 32+1#64) c.X)=yZ c.H+1:=zr3 c.H (by omega) (by omega) (by rw [←hs.2.2,hh];exact hv)
    have hcH:yZ c.H=yZ (ld m h1):=by rw [←hs.2.2,hh]
    have ld1:ld (st m h1 (yU (c.H >>> 32+1#64) c.X)) h1=yU (c.H >>> 32+1#64) c.X:=by rw [Xp,if_pos ⟨rfl,by rw [←hh];exact hs.1,by rw [←hh];exact hs.2.1⟩]
    have h12:h1≠h2:=by rcases L.hs with g | g<;>omega
    refine ⟨rfl,?_,?_,?_,fun a ha hne=> ?_⟩
    ·rw [hh]
     refine ⟨L.hs,?_,?_,?_,by dsimp only;rw [Zl];exact hlen⟩
     ·dsimp only
      rw [ld1,zbx _ (by omega) (by omega),hX]
      refine ⟨rfl,hb.1,hb.2,?_⟩
      rw [zmh hp hd hb.1,hl,ztE nn.1 nn.2]
      have:=L.cF
      rw [←hh,hs.2.2] at this
      rw [←hX,←hh] at *
      exact this.st_head hp hd
     ·dsimp only
      rw [yo h12]
      exact L.cE.st_head hp hd
     ·refine List.Perm.trans ?_ L.all
      show List.Perm (b::(F++E++(o1++o2))) (F++E++(o1++b::o2))
      rw [←List.append_assoc (F++E) o1 o2,←List.append_assoc (F++E) o1 (b::o2)]
      exact List.perm_middle.symm
    ·rw [hh]
     exact Mv.head hp hd (by rw [vp,hcH];omega)
    ·rw [hh]
     dsimp only
     rw [ld1,vp,hcH]
    ·rw [hh]
     exact yo (fun e=>hne e.symm)
   ·left
    have hsw:sw m c.Head c.H (yU (c.H >>> 32+1#64) c.X)=(m,false):=by unfold sw;rw [if_neg hs]
    rw [hsw]
    exact ⟨ho,L,Mv.refl _ _ _ _,⟨fun e=>(by simp at e),fun e=>(by simp at e),fun e=>(by simp at e)⟩,fun _ _=>rfl⟩
end
end Go.Pe.G
namespace Go.Pe.G
open Go.Pe
noncomputable section
structure Gh where
 F:List Int
 E:List Int
 D:Int→List Int
 t:Int→Nat
 c:Int→Nat
def xm (s:za) (b:Int):List Int:=(s.Bins[b.toNat]?).getD []
def yr (p:zb) (s:za) (g:Gh):List Int:=g.F.flatMap (xm s)++(List.range p.Workers.toNat).flatMap (fun i:Nat=>g.D ((i:Int)+1))
structure SX (p:zb) (nb:Nat) (s:za) (g:Gh) (own:List Int) (k:Nat):Prop where
 S:SOk p nb s
 L:LI p nb s.M (z7 p) (zD p) g.F g.E own
 D: ∀w,1≤w→w≤p.Workers→DQ p s.M w (g.t w) (g.D w) (g.c w)
 v:yZ (ld s.M (z7 p))≤k∧yZ (ld s.M (zD p))≤k
 dk: ∀w,1≤w→w≤p.Workers→g.t w+(g.D w).length≤k+1000
inductive DFr (p:zb) (m m':List (BitVec 64)) (g g':Gh) (w:Int):Prop
 | same (e1:g'.t w=g.t w) (e2:g'.D w=g.D w) (e3:g'.c w=g.c w) (e4: ∀a,zN p w≤a→a<zN p w+p.Cap+2→ld m' a=ld m a):DFr p m m' g g' w
 | stolen (x:Int) (e1:g'.t w=g.t w+1) (e2:g.D w=x::g'.D w) (e3:g'.c w=g.c w) (e4: ∀a,zN p w<a→a<zN p w+p.Cap+2→ld m' a=ld m a):DFr p m m' g g' w
structure FX (p:zb) (nb:Nat) (X:List Int) (O:Int→Prop) (s s':za) (g g':Gh):Prop where
 mv:Mv p nb X s.M s'.M
 bn: ∀b,1≤b→b∉X→s'.Bins[b.toNat]? =s.Bins[b.toNat]?
 dq: ∀w,1≤w→w≤p.Workers→DFr p s.M s'.M g g' w∨(O w∧Dv (g.t w) (g.D w) (g'.t w) (g'.D w))
 fb: ∀y∈g'.F,y∈g.F∨xm s' y≠[]
theorem DFr.dv {p:zb} {m m':List (BitVec 64)} {g g':Gh} {w:Int} (h:DFr p m m' g g' w):Dv (g.t w) (g.D w) (g'.t w) (g'.D w):=by
 cases h with
 | same t l c m=>rw [t,l];exact Dv.refl _ _
 | stolen x t l c m=>exact ⟨by omega,fun e=>by omega⟩
theorem FX.dv {p:zb} {nb:Nat} {X:List Int} {O:Int→Prop} {s s':za} {g g':Gh} (h:FX p nb X O s s' g g') {w:Int} (h1:1≤w) (h2:w≤p.Workers):Dv (g.t w) (g.D w) (g'.t w) (g'.D w):=by
 rcases h.dq w h1 h2 with h | h
 ·exact h.dv
 ·exact h.2
theorem FX.tk {p:zb} {nb:Nat} {X:List Int} {O:Int→Prop} {s s':za} {g g':Gh} (h:FX p nb X O s s' g g') {w:Int} (h1:1≤w) (h2:w≤p.Workers) {d:zh} (K:TK p s.M w (g.t w) (g.D w) d):TK p s'.M w (g'.t w) (g'.D w) d:=K.dv (h.dv h1 h2)
theorem FX.pk {p:zb} (hp:zE p) {nb:Nat} {X:List Int} {O:Int→Prop} {s s':za} {g g':Gh} (h:FX p nb X O s s' g g') {w:Int} (h1:1≤w) (h2:w≤p.Workers) (ho: ¬O w) {d:zh} (K:PK p s.M w (g.t w) (g.D w) (g.c w) d):PK p s'.M w (g'.t w) (g'.D w) (g'.c w) d:=by
 rcases h.dq w h1 h2 with h | h
 ·cases h with
  | same t l c m=>rw [t,l,c];exact K.keep
  | stolen x t l c m=>rw [l] at K;rw [t,c];exact K.stolen hp ⟨h1,h2⟩
 ·exact absurd h.1 ho
theorem FX.dk {p:zb} (hp:zE p) {nb:Nat} {X:List Int} {O:Int→Prop} {s s':za} {g g':Gh} (h:FX p nb X O s s' g g') {w:Int} (h1:1≤w) (h2:w≤p.Workers) (ho: ¬O w) {d:zh} (K:DK p s.M w (g.t w) (g.D w) (g.c w) d):DK p s'.M w (g'.t w) (g'.D w) (g'.c w) d:=by
 have hc:=hp.cap
 rcases h.dq w h1 h2 with h | h
 ·cases h with
  | same t l c m=>rw [t,l,c];exact K.keep hp (fun a h1 h2=>m a (by omega) h2)
  | stolen x t l c m =>
   rw [l] at K
   have K':DK p s'.M w (g.t w) (x::g'.D w) (g.c w) d:=K.keep hp (fun a h1 h2=>m a (by omega) h2)
   rw [t,c]
   exact K'.stolen (m':=s'.M) (fun _ _=>rfl) hp
 ·exact absurd h.1 ho
def xI (g:zC):List Int:=if g.Out=0∧(g.PC=6∨g.PC=7) then [g.Bin] else []
def yI (g:zC):List Int:=if g.Out=0∧3≤g.PC∧g.PC≤7 then [g.Obj] else []
structure GX (p:zb) (s:za) (gh:Gh) (g:zC):Prop where
 o:g.Out=0∨g.Out=1
 pc:0≤g.PC∧g.PC≤7
 md:1≤g.Mode∧g.Mode≤3
 ob:1≤g.Obj∧g.Obj≤64
 c0:g.Mode=1→g.Out=0→gh.c g.Who=0
 c5:g.PC=5→g.Out=0→g.C.Out=0∧(0≤g.C.PC∧g.C.PC≤2)∧CK p s.M g.C
 c7:g.PC=7→g.Out=0→g.C.Out=0∧(0≤g.C.PC∧g.C.PC≤2)∧g.C.X=g.Bin∧CK p s.M g.C∧s.Bins[g.Bin.toNat]? =some [g.Obj]
 d3:g.PC=3→g.Out=0→g.Mode=1∧g.D.X=g.Obj∧DK p s.M g.Who (gh.t g.Who) (gh.D g.Who) (gh.c g.Who) g.D
theorem GX.other {p:zb} (hp:zE p) {nb k:Nat} {s s':za} {gh gh':Gh} {X R:List Int} {O:Int→Prop} {o:zC} (Y:SX p nb s gh (X++R) k) (Fx:FX p nb X O s s' gh gh') (G:GX p s gh o) (M:MOk p nb o)
  (hR: ∀x∈xI o,x∈R) (apart:o.Mode=1→¬O o.Who):GX p s' gh' o:=by
 have hsub: ∀x∈X,x∈X++R:=fun x hx=>List.mem_append_left _ hx
 have hnd:=(List.nodup_append.1 Y.L.nodup).2.1
 have hnot: ∀x,x∈xI o→x∉X:=fun x hx hg=>(List.nodup_append.1 hnd).2.2 x hg x (hR x hx) rfl
 refine ⟨G.o,G.pc,G.md,G.ob,fun h1 h0=> ?_,fun h5 h0=> ?_,fun h7 h0=> ?_,fun h3 h0=> ?_⟩
 ·have hw:=M.who h1
  rcases Fx.dq o.Who hw.1 hw.2 with h | h
  ·cases h with
   | same t l c m=>rw [c];exact G.c0 h1 h0
   | stolen x t l c m=>rw [c];exact G.c0 h1 h0
  ·exact absurd h.1 (apart h1)
 ·obtain ⟨a,b,c⟩:=G.c5 h5 h0
  obtain ⟨m1,m2,m3,m4,m5⟩:=M.c5 h5
  exact ⟨a,b,c.mv Y.L Fx.mv hsub (.inr m2) (fun h _=>m4 h) (fun e=>by omega)⟩
 ·obtain ⟨a,b,c,d,e⟩:=G.c7 h7 h0
  obtain ⟨m1,m2,m3,m4,m5⟩:=M.c7 h7
  have hown:o.Bin∈xI o:=by unfold xI;rw [if_pos ⟨h0,.inr h7⟩];simp
  have hno:=hnot _ hown
  exact ⟨a,b,c,d.mv Y.L Fx.mv hsub (.inl m2) (fun _ e=>by omega) (fun _=>⟨m4.1,m4.2,by rw [c];exact hno⟩),by rw [Fx.bn o.Bin (by rw [←c];exact m4.1) hno];exact e⟩
 ·obtain ⟨a,b,c⟩:=G.d3 h3 h0
  have hw:=M.who a
  exact ⟨a,b,Fx.dk hp hw.1 hw.2 (apart a) c⟩
theorem XR (m:List (BitVec 64)) {c:zB} (h:c.Out=0) (hpc:0≤c.PC∧c.PC≤2) (hk:c.Kind=1∨c.Kind=2) :
  ((zk m c).2.Out=0∧0≤(zk m c).2.PC∧(zk m c).2.PC≤2)∨(zk m c).2.Out=1∨((zk m c).2.Out=2∧c.Kind=2):=by
 unfold zk
 rw [if_neg (by omega)]
 split
 ·dsimp only
  split
  ·rename_i e;exact .inr (.inr ⟨rfl,e.1⟩)
  ·exact .inl ⟨h,by show (0:Int)≤1;decide,by show (1:Int)≤2;decide⟩
 split
 ·split<;>exact .inl ⟨h,by show (0:Int)≤2;decide,by show (2:Int)≤2;decide⟩
 ·dsimp only
  generalize sw m c.Head c.H _=r
  split
  ·split<;>exact .inr (.inl rfl)
  ·exact .inl ⟨h,by show (0:Int)≤0;decide,by show (0:Int)≤2;decide⟩
theorem ziz (m:List (BitVec 64)) (c:zB):(zk m c).2.Kind=c.Kind∧(zk m c).2.Head=c.Head∧(zk m c).2.Next=c.Next∧(c.Kind=1→(zk m c).2.X=c.X):=by
 unfold zk
 split
 ·exact ⟨rfl,rfl,rfl,fun _=>rfl⟩
 split
 ·dsimp only;split<;>exact ⟨rfl,rfl,rfl,fun _=>rfl⟩
 split
 ·split<;>exact ⟨rfl,rfl,rfl,fun _=>rfl⟩
 ·dsimp only
  generalize sw m c.Head c.H _=r
  split
  ·split
   ·rename_i e;exact ⟨rfl,rfl,rfl,fun e2=>by omega⟩
   ·exact ⟨rfl,rfl,rfl,fun _=>rfl⟩
  ·exact ⟨rfl,rfl,rfl,fun _=>rfl⟩
theorem SX.quiet {p:zb} {nb k:Nat} {s s':za} {g:Gh} {own:List Int} (X:SX p nb s g own k) (S':SOk p nb s') (hm:s'.M=s.M):SX p nb s' g own (k+1) :=
 ⟨S',by rw [hm];exact X.L,by rw [hm];exact X.D,by rw [hm];exact ⟨Nat.le_succ_of_le X.v.1,Nat.le_succ_of_le X.v.2⟩,fun w h1 h2=>by have:=X.dk w h1 h2;omega⟩
theorem FX.quiet {p:zb} {nb:Nat} {X:List Int} {O:Int→Prop} {s s':za} {g:Gh} (hm:s'.M=s.M) (hb: ∀b,1≤b→b∉X→s'.Bins[b.toNat]? =s.Bins[b.toNat]?):FX p nb X O s s' g g :=
 ⟨by rw [hm];exact Mv.refl _ _ _ _,hb,fun _ _ _=> .inl (.same rfl rfl rfl (fun _ _ _=>by rw [hm])),fun _ h=> .inl h⟩
theorem Zt {p:zb} {s s':za} {g:Gh} (hb:s'.Bins=s.Bins):yr p s' g=yr p s g:=by
 unfold yr xm;rw [hb]
theorem wU {g:zC} (h:g.Out≠0∨(g.PC≠6∧g.PC≠7)):xI g=[]:=by unfold xI;rw [if_neg (by omega)]
theorem zgy {g:zC} (h:g.Out=0) (h2:g.PC=6∨g.PC=7):xI g=[g.Bin]:=by unfold xI;rw [if_pos ⟨h,h2⟩]
theorem uO {g:zC} (h:g.Out≠0∨g.PC<3∨7<g.PC):yI g=[]:=by unfold yI;rw [if_neg (by omega)]
theorem vn {g:zC} (h:g.Out=0) (h2:3≤g.PC) (h3:g.PC≤7):yI g=[g.Obj]:=by unfold yI;rw [if_pos ⟨h,h2,h3⟩]
theorem GX.ask {p:zb} {s:za} {gh:Gh} {g:zC} (o:g.Out=0) (md:1≤g.Mode∧g.Mode≤3) (ob:1≤g.Obj∧g.Obj≤64) (c0:g.Mode=1→gh.c g.Who=0) (q:zb):GX p s gh (zgW q g) :=
 ⟨.inl o,⟨by show (0:Int)≤5;decide,by show (5:Int)≤7;decide⟩,md,ob,fun h _=>c0 h,
  fun _ _=>⟨rfl,⟨by show (0:Int)≤0;decide,by show (0:Int)≤2;decide⟩,⟨fun e=>absurd e (by show ¬(1:Int)≤0;decide),fun e=>absurd e (by show ¬(0:Int)=2;decide),fun e=>absurd e (by show ¬(0:Int)=2;decide)⟩⟩,
  fun e=>absurd e (by show ¬(5:Int)=7;decide),fun e=>absurd e (by show ¬(5:Int)=3;decide)⟩
theorem GX.plain {p:zb} {s:za} {gh:Gh} {g:zC} (o:g.Out=0∨g.Out=1) (pc:0≤g.PC∧g.PC≤7) (md:1≤g.Mode∧g.Mode≤3) (ob:1≤g.Obj∧g.Obj≤64) (c0:g.Mode=1→g.Out=0→gh.c g.Who=0) (h:g.Out≠0∨(g.PC≠3∧g.PC≠5∧g.PC≠7)):GX p s gh g :=
 ⟨o,pc,md,ob,c0,fun e e2=>by omega,fun e e2=>by omega,fun e e2=>by omega⟩
def zrW (g:zC) (w:Int):Prop:=g.Mode=1∧w=g.Who
def zml (p:zb) (nb k:Nat) (R:List Int) (gh:Gh) (s:za) (g:zC) (s':za) (g':zC):Prop :=
 ∃gh',SX p nb s' gh' (xI g'++R) (k+1)∧GX p s' gh' g'∧FX p nb (xI g) (zrW g) s s' gh gh'∧(g.Mode=1→g.Out=0→gh'.c g.Who=0)∧(∀b∈gh'.F,b∈gh.F∨xm s' b≠[]) ∧
  ∃N,List.Perm (yr p s' gh'++yI g') (N++(yr p s gh++yI g)) ∧
   ((N=[]∧s'.T=s.T)∨(N=[g.Obj]∧¬(s.T.Marks|||bit g.Obj=s.T.Marks)∧s'.T={s.T with Marks:=s.T.Marks|||bit g.Obj}))
theorem zml.quiet {p:zb} {nb k:Nat} {R:List Int} {gh:Gh} {s s':za} {g g':zC} (X:SX p nb s gh (xI g++R) k) (S':SOk p nb s') (hm:s'.M=s.M) (hb:s'.Bins=s.Bins) (hT:s'.T=s.T)
  (ho:xI g'=xI g) (hh:yI g'=yI g) (c0:g.Mode=1→g.Out=0→gh.c g.Who=0) (G':GX p s' gh g'):zml p nb k R gh s g s' g' :=
 ⟨gh,by rw [ho];exact X.quiet S' hm,G',FX.quiet hm (fun _ _ _=>by rw [hb]),c0,fun _ h=> .inl h,[],by rw [Zt hb,hh];exact List.Perm.refl _,.inl ⟨rfl,hT⟩⟩
theorem zlM (m:List (BitVec 64)) {c:zB} (hk:c.Kind=2) {a:Int} (ha:a≠c.Head):ld (zk m c).1 a=ld m a:=by
 unfold zk
 split
 ·rfl
 split
 ·rfl
 split
 ·rfl
 ·dsimp only
  unfold sw
  split
  ·exact yo (fun e=>ha e.symm)
  ·rfl
theorem Chn.congr {m m':List (BitVec 64)} {N:Int} {nb:Nat} (hm: ∀x:Int,1≤x→ld m' (N+x)=ld m (N+x)): ∀ {l:List Int} {h:Int},Chn m N nb h l→Chn m' N nb h l
 | [],h,c=>c
 | y::l,h,c=>⟨c.1,c.2.1,c.2.2.1,by rw [hm y c.2.1];exact Chn.congr hm c.2.2.2⟩
theorem LI.low {p:zb} (hp:zE p) {nb:Nat} {m m':List (BitVec 64)} {h1 h2:Int} {F E own:List Int} (L:LI p nb m h1 h2 F E own) (hl:m'.length=m.length) (hm: ∀a,z7 p≤a→ld m' a=ld m a):LI p nb m' h1 h2 F E own:=by
 have hE:=wn hp
 have h:h1=z7 p∨h1=zD p:=by rcases L.hs with g | g<;>simp [g]
 have h':h2=z7 p∨h2=zD p:=by rcases L.hs with g | g<;>simp [g]
 exact ⟨L.hs,by rw [hm h1 (by omega)];exact L.cF.congr (fun x hx=>hm _ (by omega)),by rw [hm h2 (by omega)];exact L.cE.congr (fun x hx=>hm _ (by omega)),L.all,by rw [hl];exact L.len⟩
theorem Mv.low {p:zb} (hp:zE p) {nb:Nat} {X:List Int} {m m':List (BitVec 64)} (hm: ∀a,z7 p≤a→ld m' a=ld m a):Mv p nb X m m':=by
 have hE:=wn hp
 exact ⟨fun h hh=>by rw [hm h (by omega)];exact ⟨Nat.le_refl _,.inl rfl⟩,fun x hx _ _=>hm _ (by omega)⟩
theorem ztZ {p:zb} (hp:zE p) {v w:Int} (hv:1≤v∧v≤p.Workers) (hw:1≤w∧w≤p.Workers) (h:v≠w):zN p v+p.Cap+2≤zN p w∨zN p w+p.Cap+2≤zN p v:=by
 have hk:=hp.wk
 have hc:=hp.cap
 have h1:=(Yh hp hv.1 hv.2).1
 have h2:=(Yh hp hw.1 hw.2).1
 have hx:v=1∨v=2∨v=3:=by omega
 have hy:w=1∨w=2∨w=3:=by omega
 rw [h1,h2]
 rcases hx with rfl | rfl | rfl<;>rcases hy with rfl | rfl | rfl<;>omega
theorem zpP {p:zb} (hp:zE p) {w:Int} (hw:1≤w∧w≤p.Workers) {m m':List (BitVec 64)} (hm: ∀a,(a<zN p w∨zN p w+p.Cap+2≤a)→ld m' a=ld m a):(∀a,z7 p≤a→ld m' a=ld m a) ∧
  ∀v,1≤v→v≤p.Workers→v≠w→∀a,zN p v≤a→a<zN p v+p.Cap+2→ld m' a=ld m a:=by
 have hd:=Yh hp hw.1 hw.2
 refine ⟨fun a ha=>hm a (by omega),fun v h1 h2 hne a h3 h4=>hm a ?_⟩
 have:=ztZ hp ⟨h1,h2⟩ hw hne
 omega
def XH (g:Gh) (w:Int) (t:Nat) (l:List Int) (c:Nat):Gh:={g with D:=fun v=>if v=w then l else g.D v,t:=fun v=>if v=w then t else g.t v,c:=fun v=>if v=w then c else g.c v}
theorem Z1 {g:Gh} {w v:Int} {t c:Nat} {l:List Int} (h:v≠w):(XH g w t l c).D v=g.D v∧(XH g w t l c).t v=g.t v∧(XH g w t l c).c v=g.c v:=by
 unfold XH;dsimp only;rw [if_neg h,if_neg h,if_neg h];exact ⟨rfl,rfl,rfl⟩
theorem ww {g:Gh} {w:Int} {t c:Nat} {l:List Int}:(XH g w t l c).D w=l∧(XH g w t l c).t w=t∧(XH g w t l c).c w=c:=by
 unfold XH;dsimp only;rw [if_pos rfl,if_pos rfl,if_pos rfl];exact ⟨rfl,rfl,rfl⟩
theorem SX.dq {p:zb} (hp:zE p) {nb k:Nat} {s s':za} {g:Gh} {own:List Int} (X:SX p nb s g own k) (S':SOk p nb s') (hl:s'.M.length=s.M.length) {w:Int} (hw:1≤w∧w≤p.Workers)
  (hm: ∀a,(a<zN p w∨zN p w+p.Cap+2≤a)→ld s'.M a=ld s.M a) {t c:Nat} {l:List Int} (D:DQ p s'.M w t l c) (hk:t+l.length≤k+1+1000):SX p nb s' (XH g w t l c) own (k+1):=by
 obtain ⟨h1,h2⟩:=zpP hp hw hm
 have hE:=wn hp
 refine ⟨S',X.L.low hp hl h1,fun v a b=> ?_,?_,fun v a b=> ?_⟩
 ·by_cases e:v=w
  ·subst e
   rw [ww.1,ww.2.1,ww.2.2];exact D
  ·rw [(Z1 e).1,(Z1 e).2.1,(Z1 e).2.2]
   exact (X.D v a b).keep hp (h2 v a b e)
 ·rw [h1 _ (by omega),h1 _ (by omega)]
  exact ⟨Nat.le_succ_of_le X.v.1,Nat.le_succ_of_le X.v.2⟩
 ·by_cases e:v=w
  ·subst e
   rw [ww.1,ww.2.1];exact hk
  ·rw [(Z1 e).1,(Z1 e).2.1]
   have:=X.dk v a b;omega
theorem FX.own {p:zb} (hp:zE p) {nb:Nat} {Y:List Int} {O:Int→Prop} {s s':za} {g:Gh} {w:Int} (hw:1≤w∧w≤p.Workers)
  (hm: ∀a,(a<zN p w∨zN p w+p.Cap+2≤a)→ld s'.M a=ld s.M a) (hb:s'.Bins=s.Bins) {t c:Nat} {l:List Int} (hO:O w) (V:Dv (g.t w) (g.D w) t l):FX p nb Y O s s' g (XH g w t l c):=by
 obtain ⟨h1,h2⟩:=zpP hp hw hm
 refine ⟨Mv.low hp h1,fun b _ _=>by rw [hb],fun v a b=> ?_,fun _ h=> .inl h⟩
 by_cases e:v=w
 ·subst e
  right
  rw [ww.1,ww.2.1];exact ⟨hO,V⟩
 ·exact .inl (.same (Z1 e).2.1 (Z1 e).1 (Z1 e).2.2 (h2 v a b e))
theorem wZ {α β:Type} {f g:α→List β}: ∀ {l:List α},(∀x∈l,f x=g x)→l.flatMap f=l.flatMap g
 | [],_=>rfl
 | a::l,h=>by rw [List.flatMap_cons,List.flatMap_cons,h a (by simp),wZ (fun x hx=>h x (List.mem_cons_of_mem _ hx))]
theorem zuc {n:Nat} {i:Nat} (h:i<n): ∃a b,List.range n=a++i::b∧i∉a∧i∉b:=by
 refine ⟨List.range i,(List.range (n-i-1)).map (fun j=>i+1+j),?_,by simp,by simp;omega⟩
 have:n=i+(1+(n-i-1)):=by omega
 rw [this,List.range_add,List.range_add]
 simp [List.range_succ,Nat.add_assoc,Function.comp_def]
theorem zlD {p:zb} {s s':za} {g:Gh} (hb:s'.Bins=s.Bins) {w:Int} (hw:1≤w∧w≤p.Workers) {t c:Nat} {l:List Int}: ∃a b,yr p s g=a++g.D w++b∧yr p s' (XH g w t l c)=a++l++b:=by
 obtain ⟨a,b,e,ha,hb'⟩:=zuc (n:=p.Workers.toNat) (i:=(w-1).toNat) (by omega)
 have ew:(((w-1).toNat:Nat):Int)+1=w:=by omega
 have ne: ∀j:Nat,j≠(w-1).toNat→(j:Int)+1≠w:=fun j hj e=>hj (by omega)
 refine ⟨g.F.flatMap (xm s)++a.flatMap (fun i:Nat=>g.D ((i:Int)+1)),b.flatMap (fun i:Nat=>g.D ((i:Int)+1)),?_,?_⟩
 ·unfold yr
  rw [e,List.flatMap_append,List.flatMap_cons,ew]
  simp [List.append_assoc]
 ·unfold yr xm
  rw [hb,e,List.flatMap_append,List.flatMap_cons,ew,ww.1]
  have h1:a.flatMap (fun i:Nat=>(XH g w t l c).D ((i:Int)+1))=a.flatMap (fun i:Nat=>g.D ((i:Int)+1)):=by
   refine wZ (fun j hj=> ?_);exact (Z1 (ne j (fun e=>ha (e▸hj)))).1
  have h2:b.flatMap (fun i:Nat=>(XH g w t l c).D ((i:Int)+1))=b.flatMap (fun i:Nat=>g.D ((i:Int)+1)):=by
   refine wZ (fun j hj=> ?_);exact (Z1 (ne j (fun e=>hb' (e▸hj)))).1
  rw [h1,h2]
  have hF:(XH g w t l c).F=g.F:=rfl
  rw [hF]
  simp [List.append_assoc]
theorem Mv.weak {p:zb} {nb:Nat} {m m':List (BitVec 64)} (M:Mv p nb [] m m') (Y:List Int):Mv p nb Y m m':=⟨M.hd,fun x a b _=>M.nx x a b (by simp)⟩
theorem Mv.grow {p:zb} {nb:Nat} {X Y:List Int} {m m':List (BitVec 64)} (M:Mv p nb X m m') (h: ∀x∈X,x∈Y):Mv p nb Y m m':=⟨M.hd,fun x a b c=>M.nx x a b (fun e=>c (h x e))⟩
theorem SX.chain {p:zb} (hp:zE p) {nb k:Nat} {s s':za} {g:Gh} {own own' F E:List Int} (X:SX p nb s g own k) (S':SOk p nb s') (hlow: ∀a,a<z7 p→ld s'.M a=ld s.M a) (L':LI p nb s'.M (z7 p) (zD p) F E own')
  (hv:yZ (ld s'.M (z7 p))≤k+1∧yZ (ld s'.M (zD p))≤k+1):SX p nb s' {g with F:=F,E:=E} own' (k+1) :=
 ⟨S',L',fun w h1 h2=>(X.D w h1 h2).keep hp (fun a h3 h4=>hlow a (by have:=Yh hp h1 h2;omega)),hv,fun w h1 h2=>by have:=X.dk w h1 h2;show g.t w+(g.D w).length≤_;omega⟩
theorem FX.chain {p:zb} (hp:zE p) {nb:Nat} {Y:List Int} {O:Int→Prop} {s s':za} {g:Gh} {F E:List Int} (M:Mv p nb Y s.M s'.M) (hb:s'.Bins=s.Bins) (hlow: ∀a,a<z7 p→ld s'.M a=ld s.M a) (hF: ∀y∈F,y∈g.F∨xm s' y≠[]):FX p nb Y O s s' g {g with F:=F,E:=E} :=
 ⟨M,fun _ _ _=>by rw [hb],fun w h1 h2=> .inl (.same rfl rfl rfl (fun a h3 h4=>hlow a (by have:=Yh hp h1 h2;omega))),hF⟩
theorem SX.popE {p:zb} (hp:zE p) {nb k:Nat} {s:za} {g:Gh} {own:List Int} (X:SX p nb s g own k) (hk:k<4294960000) {c:zB} (kd:c.Kind=2) (hh:c.Head=zD p) (hN:c.Next=zD p) (ho:c.Out=0) (hpc:0≤c.PC∧c.PC≤2) (K:CK p s.M c)
  (hn:1≤c.PC→1≤yq c.H∧yq c.H<nb) (S':SOk p nb {s with M:=(zk s.M c).1}) :
  ((zk s.M c).1=s.M∧(zk s.M c).2.Out≠1∧CK p s.M (zk s.M c).2∧((zk s.M c).2.Out=2→g.E=[])) ∨
  (∃x l,g.E=x::l∧(zk s.M c).2.Out=1∧(zk s.M c).2.X=x∧SX p nb {s with M:=(zk s.M c).1} {g with E:=l} (x::own) (k+1)∧∀Y O,FX p nb Y O s {s with M:=(zk s.M c).1} g {g with E:=l}):=by
 have hE:=wn hp
 have hnb:=X.S.nbk
 have hv:=X.v
 have hcells:=fun a (ha:a≠c.Head)=>zlM s.M kd ha
 rcases ztd hp hnb.2 (L:=X.L.swap) kd hh hN ho hpc K hn (by omega) with ⟨a,b,e,d⟩ | ⟨x,l,a,b,e,d,f,v1,v2⟩
 ·exact .inl ⟨a,b,d,e⟩
 ·refine .inr ⟨x,l,a,b,e,X.chain hp S' (fun a ha=>hcells a (by omega)) d.swap ?_,fun Y O=>FX.chain hp (f.weak Y) rfl (fun a ha=>hcells a (by omega)) (fun _ h=> .inl h)⟩
  rw [v2,v1];omega
theorem SX.popF {p:zb} (hp:zE p) {nb k:Nat} {s:za} {g:Gh} {own:List Int} (X:SX p nb s g own k) (hk:k<4294960000) {c:zB} (kd:c.Kind=2) (hh:c.Head=z7 p) (hN:c.Next=zD p) (ho:c.Out=0) (hpc:0≤c.PC∧c.PC≤2) (K:CK p s.M c)
  (hn:1≤c.PC→1≤yq c.H∧yq c.H<nb) (S':SOk p nb {s with M:=(zk s.M c).1}) :
  ((zk s.M c).1=s.M∧(zk s.M c).2.Out≠1∧CK p s.M (zk s.M c).2∧((zk s.M c).2.Out=2→g.F=[])) ∨
  (∃x l,g.F=x::l∧(zk s.M c).2.Out=1∧(zk s.M c).2.X=x∧SX p nb {s with M:=(zk s.M c).1} {g with F:=l} (x::own) (k+1)∧∀Y O,FX p nb Y O s {s with M:=(zk s.M c).1} g {g with F:=l}):=by
 have hE:=wn hp
 have hnb:=X.S.nbk
 have hv:=X.v
 have hcells:=fun a (ha:a≠c.Head)=>zlM s.M kd ha
 rcases ztd hp hnb.2 (L:=X.L) kd hh hN ho hpc K hn (by omega) with ⟨a,b,e,d⟩ | ⟨x,l,a,b,e,d,f,v1,v2⟩
 ·exact .inl ⟨a,b,d,e⟩
 ·refine .inr ⟨x,l,a,b,e,X.chain hp S' (fun a ha=>hcells a (by omega)) d ?_,fun Y O=>FX.chain hp (f.weak Y) rfl (fun a ha=>hcells a (by omega)) (fun y hy=> .inl (by rw [a];exact List.mem_cons_of_mem _ hy))⟩
  rw [v2,v1];omega
theorem SX.pushF {p:zb} (hp:zE p) {nb k:Nat} {s:za} {g:Gh} {o1 o2:List Int} {b:Int} (X:SX p nb s g (o1++b::o2) k) (hk:k<4294960000) {c:zB} (kd:c.Kind=1) (hh:c.Head=z7 p) (hN:c.Next=zD p) (hX:c.X=b) (ho:c.Out=0) (hpc:0≤c.PC∧c.PC≤2) (K:CK p s.M c)
  (hn:1≤c.PC→yq c.H<nb) (S':SOk p nb {s with M:=(zk s.M c).1}) :
  ((zk s.M c).2.Out=0∧SX p nb {s with M:=(zk s.M c).1} g (o1++b::o2) (k+1)∧CK p (zk s.M c).1 (zk s.M c).2∧(∀Y O,b∈Y→FX p nb Y O s {s with M:=(zk s.M c).1} g g)) ∨
  ((zk s.M c).2.Out=1∧SX p nb {s with M:=(zk s.M c).1} {g with F:=b::g.F} (o1++o2) (k+1)∧(∀Y O,xm s b≠[]→FX p nb Y O s {s with M:=(zk s.M c).1} g {g with F:=b::g.F})):=by
 have hE:=wn hp
 have hnb:=X.S.nbk
 have hv:=X.v
 rcases zqP hp hnb.2 (L:=X.L) kd hh hN hX ho hpc K hn (by omega) with ⟨a,l,d,e,f⟩ | ⟨a,l,d,e,f⟩
 ·refine .inl ⟨a,X.chain hp S' (fun a ha=>f a (by omega)) l ?_,e,fun Y O hb=>FX.chain hp (d.grow (fun x hx=>by rw [List.mem_singleton.1 hx];exact hb)) rfl (fun a ha=>f a (by omega)) (fun _ h=> .inl h)⟩
  show yZ (ld (zk s.M c).1 (z7 p))≤_∧yZ (ld (zk s.M c).1 (zD p))≤_
  rw [f _ (by omega),f _ (by omega)];omega
 ·refine .inr ⟨a,X.chain hp S' (fun a ha=>f a (by omega) (by omega)) l ?_,fun Y O hb=>FX.chain hp (d.weak Y) rfl (fun a ha=>f a (by omega) (by omega)) (fun y hy=>(List.mem_cons.1 hy).elim (fun e=> .inr (by rw [e];exact hb)) .inl)⟩
  show yZ (ld (zk s.M c).1 (z7 p))≤_∧yZ (ld (zk s.M c).1 (zD p))≤_
  have f':=f (zD p) (by omega) (by omega)
  rw [f'];omega
theorem SX.pushE {p:zb} (hp:zE p) {nb k:Nat} {s:za} {g:Gh} {o1 o2:List Int} {b:Int} (X:SX p nb s g (o1++b::o2) k) (hk:k<4294960000) {c:zB} (kd:c.Kind=1) (hh:c.Head=zD p) (hN:c.Next=zD p) (hX:c.X=b) (ho:c.Out=0) (hpc:0≤c.PC∧c.PC≤2) (K:CK p s.M c)
  (hn:1≤c.PC→yq c.H<nb) (S':SOk p nb {s with M:=(zk s.M c).1}) :
  ((zk s.M c).2.Out=0∧SX p nb {s with M:=(zk s.M c).1} g (o1++b::o2) (k+1)∧CK p (zk s.M c).1 (zk s.M c).2∧(∀Y O,b∈Y→FX p nb Y O s {s with M:=(zk s.M c).1} g g)) ∨
  ((zk s.M c).2.Out=1∧SX p nb {s with M:=(zk s.M c).1} {g with E:=b::g.E} (o1++o2) (k+1)∧(∀Y O,FX p nb Y O s {s with M:=(zk s.M c).1} g {g with E:=b::g.E})):=by
 have hE:=wn hp
 have hnb:=X.S.nbk
 have hv:=X.v
 rcases zqP hp hnb.2 (L:=X.L.swap) kd hh hN hX ho hpc K hn (by omega) with ⟨a,l,d,e,f⟩ | ⟨a,l,d,e,f⟩
 ·refine .inl ⟨a,X.chain hp S' (fun a ha=>f a (by omega)) l.swap ?_,e,fun Y O hb=>FX.chain hp (d.grow (fun x hx=>by rw [List.mem_singleton.1 hx];exact hb)) rfl (fun a ha=>f a (by omega)) (fun _ h=> .inl h)⟩
  show yZ (ld (zk s.M c).1 (z7 p))≤_∧yZ (ld (zk s.M c).1 (zD p))≤_
  rw [f _ (by omega),f _ (by omega)];omega
 ·refine .inr ⟨a,X.chain hp S' (fun a ha=>f a (by omega) (by omega)) l.swap ?_,fun Y O=>FX.chain hp (d.weak Y) rfl (fun a ha=>f a (by omega) (by omega)) (fun _ h=> .inl h)⟩
  show yZ (ld (zk s.M c).1 (z7 p))≤_∧yZ (ld (zk s.M c).1 (zD p))≤_
  have f':=f (z7 p) (by omega) (by omega)
  rw [f'];omega
end
end Go.Pe.G
namespace Go.Pe.G
open Go.Pe
noncomputable section
theorem zzE {p:zb} {s:za} {g:Gh} {b:Int}:yr p s {g with F:=b::g.F}=xm s b++yr p s g:=by
 unfold yr;simp [List.append_assoc]
theorem zzr {p:zb} {s:za} {g:Gh} {l:List Int}:yr p s {g with E:=l}=yr p s g:=rfl
theorem zw9 {l:List Int} {t:Nat} {x:Int}:Dv t l t (l++[x]):=⟨Nat.le_refl _,fun _ h=>⟨by simp,by cases l with | nil=>exact absurd rfl h | cons a l=>rfl⟩⟩
theorem zu0 {p:zb} (hp:zE p) {nb k:Nat} {R:List Int} {gh:Gh} {s:za} {g:zC} (hk:k<4294960000) (X:SX p nb s gh (xI g++R) k) (M:MOk p nb g) (h5o:g.PC=5→g.C.Out≠1) (G:GX p s gh g) :
  zml p nb k R gh s g (zu s g).1 (zu s g).2:=by
 have S':=(zmx hp X.S M h5o).1
 have hP:=X.S.P
 have hpc:=G.pc
 have hmd:=G.md
 have hob:=G.ob
 revert S'
 unfold zu
 by_cases h0:g.Out=0
 rotate_left
 ·rw [if_pos (.inl h0)]
  intro S'
  exact .quiet X S' rfl rfl rfl rfl rfl G.c0 G
 rw [if_neg (by omega)]
 have hc0:g.Mode=1→gh.c g.Who=0:=fun h=>G.c0 h h0
 by_cases p7:g.PC=7
 ·rw [if_pos p7]
  obtain ⟨c1,c2,c3,c4,c5⟩:=G.c7 p7 h0
  obtain ⟨m1,m2,m3,m4,m5⟩:=M.c7 p7
  have eo:xI g=[g.Bin]:=zgy h0 (.inr p7)
  have eh:yI g=[g.Obj]:=vn h0 (by omega) (by omega)
  rw [eo] at X
  intro S'
  have S':SOk p nb {s with M:=(zk s.M g.C).1}:=S'
  unfold za6
  dsimp only
  rcases SX.pushF hp (o1:=[]) (o2:=R) (b:=g.Bin) X hk m1 m2 m3 c3 c1 c2 c4 m5 S' with ⟨a,b,c,d⟩ | ⟨a,b,d⟩
  ·rw [a]
   rw [if_neg (by decide)]
   have hout:=XR s.M c1 c2 (.inl m1)
   have hsame:=ziz s.M g.C
   have hpc':0≤(zk s.M g.C).2.PC∧(zk s.M g.C).2.PC≤2:=by omega
   refine ⟨gh,by rw [show xI {g with C:=(zk s.M g.C).2}=[g.Bin] from zgy h0 (.inr p7)];exact b,?_,by rw [eo];exact d _ _ (by simp),fun h _=>hc0 h,fun _ h=> .inl h,[],?_,.inl ⟨rfl,rfl⟩⟩
   ·exact ⟨.inl h0,hpc,hmd,hob,fun h _=>hc0 h,fun e=>by have e:g.PC=5:=e;omega,fun _ _=>⟨a,hpc',(hsame.2.2.2 m1).trans c3,c,c5⟩,fun e=>by have e:g.PC=3:=e;omega⟩
   ·rw [Zt rfl,show yI {g with C:=(zk s.M g.C).2}=[g.Obj] from vn h0 (by show (3:Int)≤g.PC;omega) (by show g.PC≤7;omega),eh]
    exact List.Perm.refl _
  ·rw [a,if_pos rfl]
   have e1:xI {g with C:=(zk s.M g.C).2,Out:=1}=[]:=wU (.inl (by show (1:Int)≠0;decide))
   have e2:yI {g with C:=(zk s.M g.C).2,Out:=1}=[]:=uO (.inl (by show (1:Int)≠0;decide))
   refine ⟨{gh with F:=g.Bin::gh.F},by rw [e1];exact b,?_,by rw [eo];exact d _ _ (by unfold xm;rw [c5];exact List.cons_ne_nil _ _),fun h _=>hc0 h,fun y hy=>(List.mem_cons.1 hy).elim (fun e=> .inr (by rw [e];unfold xm;rw [show ({s with M:=(zk s.M g.C).1}:za).Bins=s.Bins from rfl,c5];exact List.cons_ne_nil _ _)) .inl,[],?_,.inl ⟨rfl,rfl⟩⟩
   ·exact GX.plain (.inr rfl) hpc hmd hob (fun _ e=>by cases e) (.inl (by show (1:Int)≠0;decide))
   ·rw [e2,eh,zzE,Zt rfl,List.append_nil]
    have:xm {s with M:=(zk s.M g.C).1} g.Bin=[g.Obj]:=by unfold xm;rw [show ({s with M:=(zk s.M g.C).1}:za).Bins=s.Bins from rfl,c5];rfl
    rw [this]
    exact List.perm_append_comm
 rw [if_neg p7]
 by_cases p6:g.PC=6
 ·rw [if_pos p6]
  have eo:xI g=[g.Bin]:=zgy h0 (.inl p6)
  have eh:yI g=[g.Obj]:=vn h0 (by omega) (by omega)
  have hb:=M.b6 p6
  have hbl:=X.S.bins
  intro S'
  unfold zoT
  unfold zoT at S'
  have e1:xI {g with PC:=7,C:=⟨1,0,z7 s.P,zD s.P,0#64,g.Bin,0,0⟩}=[g.Bin]:=zgy h0 (.inr rfl)
  have hget: ∀b,1≤b→b∉xI g→(s.Bins.set g.Bin.toNat [g.Obj])[b.toNat]? =s.Bins[b.toNat]? :=fun b b1 b2=>by
   rw [List.getElem?_set_ne]
   intro e
   rw [eo] at b2
   exact b2 (by rw [show b=g.Bin by omega];simp)
  refine ⟨gh,by rw [e1,←eo];exact X.quiet S' rfl,?_,FX.quiet rfl hget,fun h _=>hc0 h,fun _ h=> .inl h,[],?_,.inl ⟨rfl,rfl⟩⟩
  ·refine ⟨.inl h0,⟨by show (0:Int)≤7;decide,by show (7:Int)≤7;decide⟩,hmd,hob,fun h _=>hc0 h,fun e=>absurd e (by show ¬(7:Int)=5;decide),fun _ _=>⟨rfl,⟨by show (0:Int)≤0;decide,by show (0:Int)≤2;decide⟩,rfl,⟨fun e=>absurd e (by show ¬(1:Int)≤0;decide),fun e=>absurd e (by show ¬(0:Int)=2;decide),fun e=>absurd e (by show ¬(0:Int)=2;decide)⟩,?_⟩,fun e=>absurd e (by show ¬(7:Int)=3;decide)⟩
   show (s.Bins.set g.Bin.toNat [g.Obj])[g.Bin.toNat]? =_
   rw [List.getElem?_set_self (by omega)]
  ·rw [show yI {g with PC:=7,C:=⟨1,0,z7 s.P,zD s.P,0#64,g.Bin,0,0⟩}=[g.Obj] from vn h0 (by show (3:Int)≤7;decide) (by show (7:Int)≤7;decide),eh]
   have:yr p {s with Bins:=s.Bins.set g.Bin.toNat [g.Obj]} gh=yr p s gh:=by
    unfold yr
    congr 1
    refine wZ (fun b hb=> ?_)
    have hm:=X.L.cF.mem b hb
    have hno:=(X.L.notF (x:=g.Bin) (by rw [eo];simp)).1
    unfold xm
    rw [show ({s with Bins:=s.Bins.set g.Bin.toNat [g.Obj]}:za).Bins=s.Bins.set g.Bin.toNat [g.Obj] from rfl,hget b hm.1 (by rw [eo];intro e;rw [List.mem_singleton.1 e] at hb;exact hno hb)]
   rw [this];exact List.Perm.refl _
 rw [if_neg p6]
 have eo:xI g=[]:=wU (.inr ⟨p6,p7⟩)
 by_cases p5:g.PC=5
 ·rw [if_pos p5]
  obtain ⟨c1,c2,c3⟩:=G.c5 p5 h0
  obtain ⟨m1,m2,m3,m4,m5⟩:=M.c5 p5
  have eh:yI g=[g.Obj]:=vn h0 (by omega) (by omega)
  intro S'
  have S':SOk p nb {s with M:=(zk s.M g.C).1}:=S'
  unfold zhV
  dsimp only
  rcases SX.popE hp X hk m1 m2 m3 c1 c2 c3 m4 S' with ⟨a,b,c,d⟩ | ⟨x,l,a,b,c,d,e⟩
  ·rw [if_neg b]
   have hout:=XR s.M c1 c2 (.inr m1)
   by_cases o2:(zk s.M g.C).2.Out=2
   ·rw [if_pos o2]
    refine .quiet X S' a rfl rfl ?_ ?_ G.c0 (GX.ask h0 hmd hob hc0 _)
    ·rw [eo];exact wU (.inr ⟨by show (5:Int)≠6;decide,by show (5:Int)≠7;decide⟩)
    ·rw [eh];exact vn h0 (by show (3:Int)≤5;decide) (by show (5:Int)≤7;decide)
   ·rw [if_neg o2]
    have hpc':(zk s.M g.C).2.Out=0∧0≤(zk s.M g.C).2.PC∧(zk s.M g.C).2.PC≤2:=by omega
    refine .quiet X S' a rfl rfl ?_ ?_ G.c0 ⟨.inl h0,hpc,hmd,hob,G.c0,fun _ _=>⟨hpc'.1,hpc'.2,by rw [show ({s with M:=(zk s.M g.C).1}:za).M=s.M from a];exact c⟩,fun e=>by have e:g.PC=7:=e;omega,fun e=>by have e:g.PC=3:=e;omega⟩
    ·rw [eo];exact wU (.inr ⟨p6,p7⟩)
    ·rw [eh];exact vn h0 (by show (3:Int)≤g.PC;omega) (by show g.PC≤7;omega)
  ·rw [if_pos b]
   have e1:xI {g with PC:=6,C:=(zk s.M g.C).2,Bin:=(zk s.M g.C).2.X}=[x]:=by rw [←c];exact zgy (g:={g with PC:=6,C:=(zk s.M g.C).2,Bin:=(zk s.M g.C).2.X}) h0 (.inl rfl)
   refine ⟨{gh with E:=l},by rw [e1];rw [eo] at d;exact d,?_,e _ _,fun h _=>hc0 h,fun _ h=> .inl h,[],?_,.inl ⟨rfl,rfl⟩⟩
   ·exact GX.plain (.inl h0) ⟨by show (0:Int)≤6;decide,by show (6:Int)≤7;decide⟩ hmd hob (fun h _=>hc0 h) (.inr ⟨by show (6:Int)≠3;decide,by show (6:Int)≠5;decide,by show (6:Int)≠7;decide⟩)
   ·rw [zzr,Zt rfl,eh,show yI {g with PC:=6,C:=(zk s.M g.C).2,Bin:=(zk s.M g.C).2.X}=[g.Obj] from vn h0 (by show (3:Int)≤6;decide) (by show (6:Int)≤7;decide)]
    exact List.Perm.refl _
 rw [if_neg p5]
 by_cases p4:g.PC=4
 ·rw [if_pos p4]
  intro S'
  refine .quiet X S' rfl rfl rfl ?_ ?_ G.c0 (GX.ask h0 hmd hob hc0 _)
  ·rw [eo];exact wU (.inr ⟨by show (5:Int)≠6;decide,by show (5:Int)≠7;decide⟩)
  ·rw [vn h0 (by omega) (by omega)];exact vn h0 (by show (3:Int)≤5;decide) (by show (5:Int)≤7;decide)
 rw [if_neg p4]
 by_cases p3:g.PC=3
 ·rw [if_pos p3]
  obtain ⟨c1,c2,c3⟩:=G.d3 p3 h0
  have hw:=M.who c1
  have eh:yI g=[g.Obj]:=vn h0 (by omega) (by omega)
  have hdk:=X.dk g.Who hw.1 hw.2
  have hlen:=X.L.len
  have hE:=wn hp
  have hc00:=c3.c0
  have c3':=c3
  rw [hc00] at c3'
  have D0:=X.D g.Who hw.1 hw.2
  rw [hc00] at D0
  obtain ⟨a,b,r⟩:=zro hp hw (by omega) D0 c3' (by omega) (by rw [c2];omega)
  intro S'
  have S':SOk p nb {s with M:=(yP s.M g.D).1}:=S'
  unfold zij
  dsimp only
  rcases r with ⟨r1,r2,r3⟩ | ⟨r1,r2⟩ | ⟨r1,r2⟩
  ·rw [r1,if_neg (by decide),if_neg (by decide)]
   have e1:xI {g with D:=(yP s.M g.D).2}=[]:=wU (.inr ⟨p6,p7⟩)
   refine ⟨XH gh g.Who (gh.t g.Who) (gh.D g.Who) 0,?_,?_,FX.own (O:=zrW g) (s:=s) (s':={s with M:=(yP s.M g.D).1}) (g:=gh) hp hw a rfl ⟨c1,rfl⟩ (Dv.refl _ _),fun _ _=>ww.2.2,fun _ h=> .inl h,[],?_,.inl ⟨rfl,rfl⟩⟩
   ·rw [e1];rw [eo] at X;exact X.dq hp S' (zfF _ _) hw a r2 (by omega)
   ·refine ⟨.inl h0,hpc,hmd,hob,fun _ _=>ww.2.2,fun e=>by have e:g.PC=5:=e;omega,fun e=>by have e:g.PC=7:=e;omega,fun _ _=>⟨c1,b.trans c2,?_⟩⟩
    show DK p (yP s.M g.D).1 g.Who ((XH gh g.Who (gh.t g.Who) (gh.D g.Who) 0).t g.Who) _ _ _
    rw [ww.1,ww.2.1,ww.2.2];exact r3
   ·obtain ⟨u,v,f1,f2⟩:=zlD (p:=p) (s:=s) (s':={s with M:=(yP s.M g.D).1}) (g:=gh) rfl hw (t:=gh.t g.Who) (c:=0) (l:=gh.D g.Who)
    rw [f1,f2,eh,show yI {g with D:=(yP s.M g.D).2}=[g.Obj] from vn h0 (by show (3:Int)≤g.PC;omega) (by show g.PC≤7;omega)]
    exact List.Perm.refl _
  ·rw [r1,if_neg (by decide),if_pos rfl]
   have e1:xI (zgW s.P {g with D:=(yP s.M g.D).2})=[]:=wU (.inr ⟨by show (5:Int)≠6;decide,by show (5:Int)≠7;decide⟩)
   refine ⟨XH gh g.Who (gh.t g.Who) (gh.D g.Who) 0,?_,?_,FX.own (O:=zrW g) (s:=s) (s':={s with M:=(yP s.M g.D).1}) (g:=gh) hp hw a rfl ⟨c1,rfl⟩ (Dv.refl _ _),fun _ _=>ww.2.2,fun _ h=> .inl h,[],?_,.inl ⟨rfl,rfl⟩⟩
   ·rw [e1];rw [eo] at X;exact X.dq hp S' (zfF _ _) hw a r2 (by omega)
   ·exact GX.ask (g:={g with D:=(yP s.M g.D).2}) h0 hmd hob (fun _=>ww.2.2) _
   ·obtain ⟨u,v,f1,f2⟩:=zlD (p:=p) (s:=s) (s':={s with M:=(yP s.M g.D).1}) (g:=gh) rfl hw (t:=gh.t g.Who) (c:=0) (l:=gh.D g.Who)
    rw [f1,f2,eh,show yI (zgW s.P {g with D:=(yP s.M g.D).2})=[g.Obj] from vn h0 (by show (3:Int)≤5;decide) (by show (5:Int)≤7;decide)]
    exact List.Perm.refl _
  ·rw [r1,if_pos rfl]
   have e1:xI {g with D:=(yP s.M g.D).2,Out:=1}=[]:=wU (.inl (by show (1:Int)≠0;decide))
   refine ⟨XH gh g.Who (gh.t g.Who) (gh.D g.Who++[g.D.X]) 0,?_,?_,FX.own (O:=zrW g) (s:=s) (s':={s with M:=(yP s.M g.D).1}) (g:=gh) hp hw a rfl ⟨c1,rfl⟩ zw9,fun _ _=>ww.2.2,fun _ h=> .inl h,[],?_,.inl ⟨rfl,rfl⟩⟩
   ·rw [e1];rw [eo] at X;exact X.dq hp S' (zfF _ _) hw a r2 (by rw [List.length_append,List.length_singleton];omega)
   ·exact GX.plain (.inr rfl) hpc hmd hob (fun _ e=>by cases e) (.inl (by show (1:Int)≠0;decide))
   ·obtain ⟨u,v,f1,f2⟩:=zlD (p:=p) (s:=s) (s':={s with M:=(yP s.M g.D).1}) (g:=gh) rfl hw (t:=gh.t g.Who) (c:=0) (l:=gh.D g.Who++[g.D.X])
    rw [f1,f2,eh,show yI {g with D:=(yP s.M g.D).2,Out:=1}=[] from uO (.inl (by show (1:Int)≠0;decide)),c2,List.append_nil,List.nil_append]
    simp only [List.append_assoc]
    refine List.Perm.append_left _ (List.Perm.append_left _ ?_)
    exact List.perm_append_comm
 rw [if_neg p3]
 by_cases p2:g.PC=2
 ·rw [if_pos p2]
  intro S'
  refine .quiet X S' rfl rfl rfl ?_ ?_ G.c0 (GX.plain (.inr rfl) hpc hmd hob (fun _ e=>by cases e) (.inl (by show (1:Int)≠0;decide)))
  ·rw [eo];exact wU (.inl (by show (1:Int)≠0;decide))
  ·rw [uO (g:=g) (.inr (.inl (by omega)))];exact uO (.inl (by show (1:Int)≠0;decide))
 rw [if_neg p2]
 by_cases p1:g.PC=1
 ·rw [if_pos p1]
  have eh:yI g=[]:=uO (.inr (.inl (by omega)))
  intro S'
  unfold zh1
  unfold zh1 at S'
  dsimp only at S' ⊢
  by_cases hs:(uA s.T g.Obj).2=false
  ·have eT:(uA s.T g.Obj).1=s.T:=by
    unfold uA at hs ⊢
    split at hs
    ·rename_i h1;rw [if_pos h1]
    ·rename_i h1
     split at hs
     ·cases hs
     ·rename_i h2;rw [if_neg h1,if_neg h2]
   rw [if_pos hs]
   refine .quiet X S' rfl rfl eT ?_ ?_ G.c0 (GX.plain (.inl h0) ⟨by show (0:Int)≤2;decide,by show (2:Int)≤7;decide⟩ hmd hob G.c0 (.inr ⟨by show (2:Int)≠3;decide,by show (2:Int)≠5;decide,by show (2:Int)≠7;decide⟩))
   ·rw [eo];exact wU (.inr ⟨by show (2:Int)≠6;decide,by show (2:Int)≠7;decide⟩)
   ·rw [eh];exact uO (.inr (.inl (by show (2:Int)<3;decide)))
  ·have eT: ¬(s.T.Marks|||bit g.Obj=s.T.Marks)∧(uA s.T g.Obj).1={s.T with Marks:=s.T.Marks|||bit g.Obj}:=by
    unfold uA at hs ⊢
    split at hs
    ·exact absurd rfl hs
    ·rename_i h1
     split at hs
     ·rename_i h2;exact ⟨h1,by rw [if_neg h1,if_pos h2]⟩
     ·exact absurd rfl hs
   rw [if_neg hs]
   have fin: ∀g':zC,xI g'=[]→yI g'=[g.Obj]→GX p {s with T:=(uA s.T g.Obj).1} gh g'→zml p nb k R gh s g {s with T:=(uA s.T g.Obj).1} g':=fun g' a b c =>
    ⟨gh,by rw [a,←eo];exact X.quiet S' rfl,c,FX.quiet rfl (fun _ _ _=>rfl),fun h _=>hc0 h,fun _ h=> .inl h,[g.Obj],by rw [Zt rfl,b,eh,List.append_nil];exact List.perm_append_comm,.inr ⟨rfl,eT.1,eT.2⟩⟩
   by_cases q1:g.Mode=1
   ·rw [if_pos q1]
    have hw:=M.who q1
    refine fin _ (wU (.inr ⟨by show (3:Int)≠6;decide,by show (3:Int)≠7;decide⟩)) (vn h0 (by show (3:Int)≤3;decide) (by show (3:Int)≤7;decide))
     ⟨.inl h0,⟨by show (0:Int)≤3;decide,by show (3:Int)≤7;decide⟩,hmd,hob,G.c0,fun e=>absurd e (by show ¬(3:Int)=5;decide),fun e=>absurd e (by show ¬(3:Int)=7;decide),fun _ _=>⟨q1,rfl,⟨rfl,by rw [hP],by rw [hP],rfl,hc0 q1,⟨by show (0:Int)≤0;decide,by show (0:Int)≤3;decide⟩,fun e=>absurd e (by show ¬(1:Int)≤0;decide),fun e=>absurd e (by show ¬(2:Int)≤0;decide),fun e=>absurd e (by show ¬(3:Int)≤0;decide)⟩⟩⟩
   rw [if_neg q1]
   by_cases q2:g.Mode=2
   ·rw [if_pos q2]
    exact fin _ (wU (.inr ⟨by show (4:Int)≠6;decide,by show (4:Int)≠7;decide⟩)) (vn h0 (by show (3:Int)≤4;decide) (by show (4:Int)≤7;decide))
     (GX.plain (.inl h0) ⟨by show (0:Int)≤4;decide,by show (4:Int)≤7;decide⟩ hmd hob G.c0 (.inr ⟨by show (4:Int)≠3;decide,by show (4:Int)≠5;decide,by show (4:Int)≠7;decide⟩))
   ·rw [if_neg q2]
    exact fin _ (wU (.inr ⟨by show (5:Int)≠6;decide,by show (5:Int)≠7;decide⟩)) (vn h0 (by show (3:Int)≤5;decide) (by show (5:Int)≤7;decide)) (GX.ask h0 hmd hob hc0 _)
 ·rw [if_neg p1]
  intro S'
  refine .quiet X S' rfl rfl rfl ?_ ?_ G.c0 (GX.plain (.inl h0) ⟨by show (0:Int)≤1;decide,by show (1:Int)≤7;decide⟩ hmd hob G.c0 (.inr ⟨by show (1:Int)≠3;decide,by show (1:Int)≠5;decide,by show (1:Int)≠7;decide⟩))
  ·rw [eo];exact wU (.inr ⟨by show (1:Int)≠6;decide,by show (1:Int)≠7;decide⟩)
  ·rw [uO (g:=g) (.inr (.inl (by omega)))];exact uO (.inr (.inl (by show (1:Int)<3;decide)))
end
end Go.Pe.G
