/- Own work of this seat: PA, PB, PMk, PMade15, PRight, PNew, PInv, PNewOk, PSmall, PSame, PGo, PDq, PWork, PMut, PEng, PLowEq, PWorkEq, PDq2, PChain, PStrong, PGstep, PWstep. -/
import Derived.Test.YtenpfjfpekljpaaGreatDoorWSGa
set_option linter.unusedVariables false
set_option linter.unusedSimpArgs false
set_option linter.unnecessarySimpa false
set_option linter.unusedSectionVars false
set_option linter.deprecated false
set_option maxRecDepth 20000
namespace Go.Pe.G
open Go.Pe
noncomputable section
theorem uq {A B D:Type} {f:A→Option (xz A B D)} (Inv:A→Prop) (ms:A→Nat) (Q:xz Unit B D→Prop)
  (h: ∀a,Inv a→∃o,f a=some o∧match o with
   | .again a'=>Inv a'∧ms a'<ms a
   | .brk b=>Q (.brk b)
   | .ret c=>Q (.ret c)): ∀a,Inv a→ms a<WF→∃o,yh f a=some o∧Q o:=by
 have key: ∀(n:Nat) a,Inv a→ms a<n→∃o,Z3 f n a=some o∧Q o:=by
  intro n
  induction n with
  | zero=>intro a _ h;omega
  | succ n ih =>
   intro a ha hm
   obtain ⟨o,ho,hq⟩:=h a ha
   simp only [Z3,ho,Option.bind_some]
   cases o with
   | again a'=>exact ih a' hq.1 (by have:=hq.2;omega)
   | brk b=>exact ⟨_,rfl,hq⟩
   | ret c=>exact ⟨_,rfl,hq⟩
 intro a ha hm
 rw [zaA]
 exact key WF a ha hm
theorem vc {n:Nat} (h:n<18446744073709551616):n<WF:=h
theorem yW {a:Int} (h: -9223372036854775808≤a) (h2:a<9223372036854775808):w64 a=a:=by
 rw [zkI];omega
def wc (n:Int):Int:=(n+9223372036854775808)%18446744073709551616-9223372036854775808
theorem un:w64=wc:=funext zkI
theorem xm {a:Int} (h: -9223372036854775808≤a) (h2:a<9223372036854775808):wc a=a:=by unfold wc;omega
theorem zw {α:Type} (p:Prop) [Decidable p] (a b:α):(bif decide p then a else b)=if p then a else b:=by
 by_cases h:p<;>simp [h]
theorem yD {α:Type} (p:Prop) [Decidable p] (a b:α):(bif !(decide p) then a else b)=if p then b else a:=by
 by_cases h:p<;>simp [h]
theorem vN {α:Type} {l:List α} (h:l.length<4294967296):wT l=some l:=by
 rw [zrc];simp [h]
theorem Vt {α:Type} {l:List α} {i:Int} (h:0≤i):idx l i=l[i.toNat]? :=by
 unfold idx;simp [h]
theorem VG {α:Type} {l:List α} {i:Int} (h:0≤i) (h2:i<l.length):Ym l i=some i.toNat:=by
 unfold Ym;simp [h,h2]
def bit (o:Int):BitVec 64:=if 1≤o∧o≤64 then 1#64 <<< (o-1).toNat else 0#64
theorem zsr (a:Int):zgR a=some (bit a,()):=by
 rw [zqW]
 simp only [zw]
 unfold bit
 by_cases h1:a<1
 ·rw [if_pos h1,if_neg (by omega)]
 ·rw [if_neg h1]
  by_cases h2:64<a
  ·rw [if_pos h2,if_neg (by omega)]
  ·rw [if_neg h2,yW (a:=a-1) (by omega) (by omega),if_neg (show ¬a-1<0 by omega),if_pos (show 1≤a∧a≤64 by omega),Nat.min_eq_left (by omega)]
theorem zou (s:BitVec 64) (o:Int):zdx s o=some (!(decide (s&&&bit o=0#64)),()):=by
 rw [zqf,zsr];rfl
theorem zkL (s:BitVec 64) (o:Int):za7 s o=some (s|||bit o,()):=by
 rw [zrf,zsr];rfl
def uw (t:zn) (o:Int):zn×Bool :=
 if t.Marks|||bit o=t.Marks then (t,false) else if t.Black&&&bit o=0#64 then ({t with Marks:=t.Marks|||bit o},true) else (t,false)
theorem ztf (t:zn) (o:Int):zfQ t o=some ((uw t o).1,(uw t o).2,()):=by
 rw [zmS,zkL,Option.bind_some,zw]
 unfold uw
 by_cases h1:t.Marks|||bit o=t.Marks
 ·rw [if_pos h1,if_pos h1]
 ·rw [if_neg h1,if_neg h1,zou,Option.bind_some,yD]
  by_cases h2:t.Black&&&bit o=0#64
  ·rw [if_pos h2,if_pos h2]
  ·rw [if_neg h2,if_neg h2]
theorem zo0 {m:List (BitVec 64)} (h:m.length<4294967296):xG m=some (m,()):=by
 rw [zaJ,List.nil_append,vN h,Option.bind_some]
 cases m with
 | nil=>simp [zgn]
 | cons a l=>simp
theorem zm9 {m:List (List Int)} (h:m.length<4294967296):Zb m=some (m,()):=by
 rw [zcB,List.nil_append,vN h,Option.bind_some]
 cases m with
 | nil=>simp [zgn]
 | cons a l=>simp
def ld (m:List (BitVec 64)) (a:Int):BitVec 64:=if 0≤a then m.getD a.toNat 0#64 else 0#64
def st (m:List (BitVec 64)) (a:Int) (v:BitVec 64):List (BitVec 64):=if 0≤a then m.set a.toNat v else m
def sw (m:List (BitVec 64)) (at_:Int) (a b:BitVec 64):List (BitVec 64)×Bool :=
 if 0≤at_∧at_<m.length∧ld m at_=a then (st m at_ b,true) else (m,false)
theorem zrg {m:List (BitVec 64)} {a:Int} (h:0≤a) (h2:a<m.length):m[a.toNat]? =some (ld m a):=by
 unfold ld
 rw [if_pos h,List.getD_eq_getElem?_getD,List.getElem?_eq_getElem (by omega)];rfl
theorem zsw {m:List (BitVec 64)} {a:Int}:st m a (ld m a)=m:=by
 unfold st ld
 by_cases h:0≤a
 ·rw [if_pos h,if_pos h]
  by_cases h2:a.toNat<m.length
  ·rw [List.getD_eq_getElem?_getD,List.getElem?_eq_getElem h2];simp
  ·rw [List.set_eq_of_length_le (by omega)]
 ·rw [if_neg h]
theorem zuh {m:List (BitVec 64)} {a:Int} (h:a<0∨m.length≤a):ld m a=0#64:=by
 unfold ld
 rcases h with h | h
 ·rw [if_neg (by omega)]
 ·split
  ·rw [List.getD_eq_getElem?_getD,List.getElem?_eq_none (by omega)];rfl
  ·rfl
theorem zuq {m:List (BitVec 64)} {a:Int} {v:BitVec 64} (h:a<0∨m.length≤a):st m a v=m:=by
 unfold st
 rcases h with h | h
 ·rw [if_neg (by omega)]
 ·split
  ·rw [List.set_eq_of_length_le (by omega)]
  ·rfl
theorem zsu (m:List (BitVec 64)) (a:Int) (x y:BitVec 64): ∃b,Xa m ⟨1,a,x,y⟩=some (m,ld m a,b,()):=by
 rw [zhh]
 simp only [zw,if_true]
 by_cases h1:a<0
 ·rw [if_pos h1,zuh (.inl h1)];exact ⟨_,rfl⟩
 ·rw [if_neg h1]
  by_cases h2:(m.length:Int)≤a
  ·rw [if_pos h2,zuh (.inr h2)];exact ⟨_,rfl⟩
  ·rw [if_neg h2,Vt (by omega),zrg (by omega) (by omega),Option.bind_some,zpS,Option.bind_some]
   simp
theorem zqA {m:List (BitVec 64)} (hm:m.length<4294967296) (a:Int) (x y:BitVec 64): ∃v b,Xa m ⟨2,a,x,y⟩=some (st m a x,v,b,()):=by
 rw [zhh]
 simp only [zw,if_true,if_neg (show ¬(2:Int)=1 by omega)]
 by_cases h1:a<0
 ·rw [if_pos h1,zuq (.inl h1)];exact ⟨_,_,rfl⟩
 ·rw [if_neg h1]
  by_cases h2:(m.length:Int)≤a
  ·rw [if_pos h2,zuq (.inr h2)];exact ⟨_,_,rfl⟩
  ·rw [if_neg h2,Vt (by omega),zrg (by omega) (by omega),Option.bind_some,zpU,Option.bind_some,cond_true,yD]
   by_cases h3:ld m a=x
   ·rw [if_pos h3]
    subst h3
    rw [zsw];exact ⟨_,_,rfl⟩
   ·rw [if_neg h3,zo0 hm,Option.bind_some,VG (l:=m) (by omega) (by omega),Option.bind_some]
    unfold st
    rw [if_pos (by omega)]
    exact ⟨_,_,rfl⟩
theorem zoP {m:List (BitVec 64)} (hm:m.length<4294967296) (a:Int) (x y:BitVec 64): ∃v,Xa m ⟨3,a,x,y⟩=some ((sw m a x y).1,v,(sw m a x y).2,()):=by
 rw [zhh]
 simp only [zw,if_true,if_neg (show ¬(3:Int)=1 by omega),if_neg (show ¬(3:Int)=2 by omega)]
 by_cases h1:a<0
 ·rw [if_pos h1]
  have:sw m a x y=(m,false):=by unfold sw;rw [if_neg (by omega)]
  rw [this];exact ⟨_,rfl⟩
 ·rw [if_neg h1]
  by_cases h2:(m.length:Int)≤a
  ·rw [if_pos h2]
   have:sw m a x y=(m,false):=by unfold sw;rw [if_neg (by omega)]
   rw [this];exact ⟨_,rfl⟩
  ·rw [if_neg h2,Vt (by omega),zrg (by omega) (by omega),Option.bind_some,zpK,Option.bind_some]
   simp only [zw]
   by_cases h3:ld m a=x
   ·have:sw m a x y=(st m a y,true):=by unfold sw;rw [if_pos ⟨by omega,by omega,h3⟩]
    rw [if_pos h3,this,yD]
    by_cases h4:ld m a=y
    ·rw [if_pos h4]
     have:st m a y=m:=by rw [←h4,zsw]
     rw [this]
     simp [h3]
    ·rw [if_neg h4,zo0 hm,Option.bind_some,VG (l:=m) (by omega) (by omega),Option.bind_some]
     unfold st
     rw [if_pos (by omega)]
     simp [h3]
   ·have:sw m a x y=(m,false):=by unfold sw;rw [if_neg (by rintro ⟨_,_,h⟩;exact h3 h)]
    rw [if_neg h3,this]
    simp [h3]
theorem zez (m:List (BitVec 64)) (a:Int):WT m a=some (ld m a,()):=by
 obtain ⟨b,h⟩:=zsu m a 0#64 0#64
 rw [znm,h];rfl
theorem zar {m:List (BitVec 64)} (hm:m.length<4294967296) (a:Int) (x:BitVec 64):Yl m a x=some (st m a x,()):=by
 obtain ⟨v,b,h⟩:=zqA hm a x 0#64
 rw [zlF,h];rfl
theorem ZU (m:List (BitVec 64)) (a:Int):vm m a=some (ld m a,()):=by
 obtain ⟨b,h⟩:=zsu m a 0#64 0#64
 rw [zmW,h];rfl
theorem zao {m:List (BitVec 64)} (hm:m.length<4294967296) (a:Int) (x:BitVec 64):Yn m a x=some (st m a x,()):=by
 obtain ⟨v,b,h⟩:=zqA hm a x 0#64
 rw [zlO,h];rfl
def yo (h:BitVec 64):Int:=(h&&&4294967295#64).toInt
def yX (v:BitVec 64) (n:Int):BitVec 64:=(v <<< 32)|||(BitVec.ofInt 64 n&&&4294967295#64)
theorem zbk (h:BitVec 64):Z1 h=some (yo h,()):=zmQ h
theorem zeG (v:BitVec 64) (n:Int):WJ v n=some (yX v n,()):=zmX v n
def zj (m:List (BitVec 64)) (c:zx):List (BitVec 64)×zx :=
 if c.Out≠0∨(c.Kind≠1∧c.Kind≠2)∨c.PC<0∨3≤c.PC then (m,c)
 else if c.PC=0 then
  (m,if c.Kind=2∧yo (ld m c.Head)=0 then {c with H:=ld m c.Head,Out:=2,PC:=1} else {c with H:=ld m c.Head,PC:=1})
 else if c.PC=1 then
  if c.Kind=2 then (m,{c with Y:=(ld m (wc (c.Next+yo c.H))).toInt,PC:=2})
  else (st m (wc (c.Next+c.X)) (BitVec.ofInt 64 (yo c.H)),{c with PC:=2})
 else
  let r:=sw m c.Head c.H (yX ((c.H >>> 32)+1#64) (if c.Kind=2 then c.Y else c.X))
  (r.1,if r.2 then (if c.Kind=2 then {c with X:=yo c.H,Out:=1,PC:=3} else {c with Out:=1,PC:=3}) else {c with PC:=0})
theorem ziR {m:List (BitVec 64)} (hm:m.length<4294967296) (c:zx):Uj m c=some ((zj m c).1,(zj m c).2,()):=by
 have hsee:vo m c=some (m,(if c.Kind=2∧yo (ld m c.Head)=0 then {c with H:=ld m c.Head,Out:=2} else {c with H:=ld m c.Head}),()):=by
  rw [zel,zez,Option.bind_some,zbk,Option.bind_some,zw,zw]
  by_cases h1:c.Kind=2
  ·by_cases h2:yo (ld m c.Head)=0
   ·rw [if_pos h1,if_pos h2,if_pos ⟨h1,h2⟩]
   ·rw [if_pos h1,if_neg h2,if_neg (fun h=>h2 h.2)]
  ·rw [if_neg h1,if_neg (fun h=>h1 h.1)]
 have hlink:YR m c=some (st m (wc (c.Next+c.X)) (BitVec.ofInt 64 (yo c.H)),()):=by
  rw [zga,un,zbk,Option.bind_some,zar hm];rfl
 have hbeh:Zc m c=some (m,{c with Y:=(ld m (wc (c.Next+yo c.H))).toInt},()):=by
  rw [zb8,un,zbk,Option.bind_some,zez];rfl
 have hswap:wZ m c=some ((sw m c.Head c.H (yX ((c.H >>> 32)+1#64) (if c.Kind=2 then c.Y else c.X))).1,
   (if (sw m c.Head c.H (yX ((c.H >>> 32)+1#64) (if c.Kind=2 then c.Y else c.X))).2 then (if c.Kind=2 then {c with X:=yo c.H,Out:=1} else {c with Out:=1}) else {c with PC:= -1}),()):=by
  rw [zdG,zw]
  by_cases h1:c.Kind=2
  ·rw [if_pos h1,zeG,Option.bind_some]
   obtain ⟨v,hv⟩:=zoP hm c.Head c.H (yX ((c.H >>> 32)+1#64) c.Y)
   simp only [if_pos h1]
   rw [hv,Option.bind_some]
   cases hs:(sw m c.Head c.H (yX ((c.H >>> 32)+1#64) c.Y)).2 with
   | true=>simp [hs,h1,zbk]
   | false=>simp [hs]
  ·rw [if_neg h1,zeG,Option.bind_some]
   obtain ⟨v,hv⟩:=zoP hm c.Head c.H (yX ((c.H >>> 32)+1#64) c.X)
   simp only [if_neg h1]
   rw [hv,Option.bind_some]
   cases hs:(sw m c.Head c.H (yX ((c.H >>> 32)+1#64) c.X)).2 with
   | true=>simp [hs,h1]
   | false=>simp [hs]
 rw [zna,hsee,hlink,hbeh,hswap]
 simp only [zw,yD,Option.bind_some]
 unfold zj
 by_cases h0:c.Out=0
 ·by_cases hp0:c.PC<0
  ·have:(c.Out≠0∨(c.Kind≠1∧c.Kind≠2)∨c.PC<0∨3≤c.PC):= .inr (.inr (.inl hp0))
   rw [if_pos this]
   simp [h0,hp0]
  ·by_cases hp3:3≤c.PC
   ·have:(c.Out≠0∨(c.Kind≠1∧c.Kind≠2)∨c.PC<0∨3≤c.PC):= .inr (.inr (.inr hp3))
    rw [if_pos this]
    simp [h0,hp3]
   ·by_cases hk:c.Kind=1∨c.Kind=2
    ·have: ¬(c.Out≠0∨(c.Kind≠1∧c.Kind≠2)∨c.PC<0∨3≤c.PC):=by
      rintro (h | h | h | h)
      ·exact h h0
      ·omega
      ·exact hp0 h
      ·exact hp3 h
     rw [if_neg this]
     have hpc:c.PC=0∨c.PC=1∨c.PC=2:=by omega
     have w1:w64 1=1:=yW (by omega) (by omega)
     have w2:w64 2=2:=yW (by omega) (by omega)
     have w3:w64 3=3:=yW (by omega) (by omega)
     have w4:w64 0=0:=yW (by omega) (by omega)
     rcases hk with hk | hk<;>rcases hpc with hpc | hpc | hpc<;>simp [h0,hk,hpc,w1,w2,w3,w4]<;>(try split)<;>simp [hpc,w1,w3,w4]
    ·have:(c.Out≠0∨(c.Kind≠1∧c.Kind≠2)∨c.PC<0∨3≤c.PC):= .inr (.inl (by omega))
     rw [if_pos this]
     have k1: ¬c.Kind=1:=by omega
     have k2: ¬c.Kind=2:=by omega
     simp [h0,k1,k2]
 ·have:(c.Out≠0∨(c.Kind≠1∧c.Kind≠2)∨c.PC<0∨3≤c.PC):= .inl h0
  rw [if_pos this]
  simp [h0]
end
end Go.Pe.G
namespace Go.Pe.G
open Go.Pe
noncomputable section
def uN (d:zg):BitVec 64:=BitVec.ofInt 64 (if d.Cap<1 then 1 else d.Cap)
def Xd (d:zg) (i:BitVec 64):Int:=wc (wc (d.Base+2)+(i%uN d).toInt)
def yL (m:List (BitVec 64)) (d:zg):List (BitVec 64)×zg :=
 if d.Out≠0∨d.PC<0∨4≤d.PC then (m,d)
 else if d.PC=0 then (m,{d with B:=ld m (wc (d.Base+1)),PC:=1})
 else if d.PC=1 then (m,if uN d≤d.B-ld m d.Base then {d with T:=ld m d.Base,Out:=3,PC:=2} else {d with T:=ld m d.Base,PC:=2})
 else if d.PC=2 then (st m (Xd d d.B) (BitVec.ofInt 64 d.X),{d with PC:=3})
 else (st m (wc (d.Base+1)) (d.B+1#64),{d with Out:=1,PC:=4})
theorem zrn:w64 0=0∧w64 1=1∧w64 2=2∧w64 3=3∧w64 4=4:=by
 refine ⟨?_,?_,?_,?_,?_⟩<;>exact yW (by omega) (by omega)
theorem zuJ {d:zg} (h:d.Cap<1000):uN d≠0#64:=by
 unfold uN
 intro e
 have:=congrArg BitVec.toNat e
 rw [BitVec.toNat_ofInt] at this
 split at this<;>simp at this<;>omega
theorem zi7 (d:zg):z6 d=some (uN d,()):=by
 rw [zf6];unfold uN;rw [zw]
theorem zc0 {d:zg} (h:d.Cap<1000) (i:BitVec 64):vJ i d=some (Xd d i,()):=by
 rw [ze5,un,zi7,Option.bind_some,zw,if_neg (zuJ h)];rfl
theorem zgu {m:List (BitVec 64)} (hm:m.length<4294967296) {d:zg} (hk:d.Kind=1) (hc:d.Cap<1000):Ur m d=some ((yL m d).1,(yL m d).2,()):=by
 obtain ⟨w0,w1,w2,w3,w4⟩:=zrn
 have h0:wP m d=some (m,{d with B:=ld m (wc (d.Base+1))},()):=by
  rw [XH,xl,un,Option.bind_some,ZU];rfl
 have h1:XR m d=some (m,(if uN d≤d.B-ld m d.Base then {d with T:=ld m d.Base,Out:=3} else {d with T:=ld m d.Base}),()):=by
  rw [zdC,uG,Option.bind_some,ZU,Option.bind_some,zi7,Option.bind_some,zw]
  have e:uN {d with T:=ld m d.Base}=uN d:=rfl
  simp only [e]
  by_cases h:uN d≤d.B-ld m d.Base
  ·rw [if_pos h,if_pos h,wB]
   simp [hk]
  ·rw [if_neg h,if_neg h]
 have h2:VN m d=some (st m (Xd d d.B) (BitVec.ofInt 64 d.X),()):=by
  rw [zg9,zc0 hc,Option.bind_some,zao hm];rfl
 have h3:Yk m d=some (st m (wc (d.Base+1)) (d.B+1#64),{d with Out:=1},()):=by
  rw [zbV,wB]
  simp only [decide_true,Bool.not_true,cond_false,Option.bind_some,xl,un]
  rw [zao hm];rfl
 rw [zgG,h0,h1,h2,h3,zd6]
 simp only [hk,decide_true,cond_true,Option.bind_some,yD,zw]
 have key: ∀(x:Option (List (BitVec 64)×zg×Unit)) (v:List (BitVec 64)×zg×Unit) (y:Option (List (BitVec 64)×zg×Unit)),x=some v→Option.or x y=some v:=by
  rintro _ v y rfl;rfl
 apply key
 unfold yL
 by_cases g0:d.Out=0
 ·by_cases g1:d.PC<0
  ·simp [g0,g1]
  ·by_cases g2:4≤d.PC
   ·simp [g0,g2]
   ·have hpc:d.PC=0∨d.PC=1∨d.PC=2∨d.PC=3:=by omega
    rcases hpc with h | h | h | h<;>simp [g0,h,hk,w1,w2,w3,w4]<;>(try split)<;>simp [h,hk,w2]
 ·simp [g0]
def zU (p:zb):Int:=wc (p.Workers*wc (p.Cap+2))
def zD (p:zb):Int:=wc (zU p+1)
def zF (p:zb) (w:Int):Int:=wc (wc (w-1)*wc (p.Cap+2))
theorem zbR (p:zb):Xj p=some (zU p,()):=by rw [znr,un];rfl
theorem zcX (p:zb):XU p=some (zD p,()):=by rw [zlR,un,zbR];rfl
theorem UO (p:zb):Z6 p=some (zD p,()):=by rw [znB,zcX];rfl
theorem zal (p:zb) (w:Int):XY p w=some (zF p w,()):=by rw [zl6,un];rfl
def zfB (p:zb) (g:zA):zA:={g with PC:=5,C:=⟨2,0,zD p,zD p,0#64,0,0,0⟩}
theorem ziE (a:zH):vR a=some (⟨zfB a.s.P a.Grey,a.s⟩,()):=by
 rw [zeR,zcX,Option.bind_some,UO,Option.bind_some,Va];rfl
def zgv (s:za) (g:zA):za×zA :=
 let t:=uw s.T g.Obj
 ({s with T:=t.1},
  if t.2=false then {g with PC:=2}
  else if g.Mode=1 then {g with PC:=3,D:=⟨1,0,zF s.P g.Who,s.P.Cap,0#64,0#64,g.Obj,0⟩}
  else if g.Mode=2 then {g with PC:=4}
  else zfB s.P g)
def zgj (s:za) (g:zA):za×zA :=
 let r:=yL s.M g.D
 ({s with M:=r.1},if r.2.Out=1 then {g with D:=r.2,Out:=1} else if r.2.Out=3 then zfB s.P {g with D:=r.2} else {g with D:=r.2})
def zgl (s:za) (g:zA):za×zA :=
 let r:=zj s.M g.C
 ({s with M:=r.1},if r.2.Out=1 then {g with PC:=6,C:=r.2,Bin:=r.2.X} else if r.2.Out=2 then zfB s.P {g with C:=r.2} else {g with C:=r.2})
def znK (s:za) (g:zA):za×zA :=
 ({s with Bins:=s.Bins.set g.Bin.toNat [g.Obj]},{g with PC:=7,C:=⟨1,0,zU s.P,zD s.P,0#64,g.Bin,0,0⟩})
def zaG (s:za) (g:zA):za×zA :=
 let r:=zj s.M g.C
 ({s with M:=r.1},if r.2.Out=1 then {g with C:=r.2,Out:=1} else {g with C:=r.2})
def zp (s:za) (g:zA):za×zA :=
 if g.Out≠0∨g.Mode<1∨3<g.Mode∨g.PC<0∨8≤g.PC then (s,g)
 else if g.PC=7 then zaG s g
 else if g.PC=6 then znK s g
 else if g.PC=5 then zgl s g
 else if g.PC=4 then ({s with Flag:=true},zfB s.P g)
 else if g.PC=3 then zgj s g
 else if g.PC=2 then ({s with Work:=wc (s.Work-1)},{g with Out:=1})
 else if g.PC=1 then zgv s g
 else ({s with Work:=wc (s.Work+1)},{g with PC:=1})
structure GOk (s:za) (g:zA):Prop where
 mem:s.M.length<4294967296
 bins:s.Bins.length<4294967296
 bin:g.PC=6→0≤g.Bin∧g.Bin<s.Bins.length
 deq:g.PC=3→g.D.Kind=1∧g.D.Cap<1000
theorem zuD {s:za} {g:zA} (ok:GOk s g):zc3 s g=some ((zp s g).1,(zp s g).2,()):=by
 rw [znR]
 simp only [zw,yD]
 unfold zp
 by_cases h0:g.Out=0
 rotate_left
 ·rw [if_neg h0,if_pos (.inl h0)]
 rw [if_pos h0]
 by_cases h1:g.Mode<1
 ·rw [if_pos h1,if_pos (.inr (.inl h1))]
 rw [if_neg h1]
 by_cases h2:3<g.Mode
 ·rw [if_pos h2,if_pos (.inr (.inr (.inl h2)))]
 rw [if_neg h2]
 by_cases h3:g.PC<0
 ·rw [if_pos h3,if_pos (.inr (.inr (.inr (.inl h3))))]
 rw [if_neg h3]
 by_cases h4:8≤g.PC
 ·rw [if_pos h4,if_pos (.inr (.inr (.inr (.inr h4))))]
 rw [if_neg h4,if_neg (show ¬(g.Out≠0∨g.Mode<1∨3<g.Mode∨g.PC<0∨8≤g.PC) by omega)]
 by_cases p7:g.PC=7
 ·rw [if_pos p7,if_pos p7,zcJ]
  simp only [ziR ok.mem,Option.bind_some,zw]
  by_cases e:(zj s.M g.C).2.Out=1<;>simp [zaG,e]
 rw [if_neg p7,if_neg p7]
 by_cases p6:g.PC=6
 ·rw [if_pos p6,if_pos p6,zeB]
  obtain ⟨b1,b2⟩:=ok.bin p6
  simp only [zm9 ok.bins,Option.bind_some,VG (l:=s.Bins) b1 b2,zbR,UO,Va]
  rfl
 rw [if_neg p6,if_neg p6]
 by_cases p5:g.PC=5
 ·rw [if_pos p5,if_pos p5,zeF]
  simp only [ziR ok.mem,Option.bind_some,zw,ziE]
  by_cases e:(zj s.M g.C).2.Out=1
  ·simp [zgl,e]
  ·by_cases e2:(zj s.M g.C).2.Out=2<;>simp [zgl,e,e2]
 rw [if_neg p5,if_neg p5]
 by_cases p4:g.PC=4
 ·rw [if_pos p4,if_pos p4,zeb,ziE];rfl
 rw [if_neg p4,if_neg p4]
 by_cases p3:g.PC=3
 ·rw [if_pos p3,if_pos p3,zeg]
  obtain ⟨b1,b2⟩:=ok.deq p3
  simp only [zgu ok.mem b1 b2,Option.bind_some,zw,ziE]
  by_cases e:(yL s.M g.D).2.Out=1
  ·simp [zgj,e]
  ·by_cases e2:(yL s.M g.D).2.Out=3<;>simp [zgj,e,e2]
 rw [if_neg p3,if_neg p3]
 by_cases p2:g.PC=2
 ·rw [if_pos p2,if_pos p2,zer,un];rfl
 rw [if_neg p2,if_neg p2]
 by_cases p1:g.PC=1
 ·rw [if_pos p1,if_pos p1,zex]
  simp only [ztf,Option.bind_some,zw,ziE,zal,W4]
  unfold zgv
  cases hs:(uw s.T g.Obj).2 with
  | false=>simp [hs]
  | true =>
   by_cases m1:g.Mode=1
   ·simp [hs,m1]
   ·by_cases m2:g.Mode=2<;>simp [hs,m1,m2]
 rw [if_neg p1,if_neg p1,if_pos (show g.PC=0 by omega),zb9,un];rfl
end
end Go.Pe.G
namespace Go.Pe.G
open Go.Pe
noncomputable section
theorem vu {b k:Int} (h:0≤b) (hk:0<k):0≤b.tmod k∧b.tmod k<k:=by
 rw [Int.tmod_eq_emod_of_nonneg h];exact ⟨Int.emod_nonneg _ (by omega),Int.emod_lt_of_pos _ hk⟩
def ze6 (o:zk) (regs slots:Int):Prop:=(0≤o.R∧o.R<regs) ∧
 ((o.Kind=1∨o.Kind=2)∧(0≤o.A∧o.A<regs)∧(0≤o.S∧o.S<slots)∨o.Kind=4∧(0≤o.A∧o.A<regs)∧o.S=0∨(o.Kind=3∨o.Kind=5)∧o.A=0∧o.S=0)
structure zC (p:zb):Prop where
 wk:1≤p.Workers∧p.Workers≤3
 mt:0≤p.Mutators∧p.Mutators≤2
 cap:1≤p.Cap∧p.Cap≤3
 buf:1≤p.Buf∧p.Buf≤2
 bin:1≤p.Bin∧p.Bin≤3
 price:0≤p.Price∧p.Price≤3
 limit:0≤p.Limit∧p.Limit≤3
 slots:1≤p.H.Slots∧p.H.Slots≤2
 n:1≤(p.H.Objs.length:Int)∧(p.H.Objs.length:Int)≤6
 objs: ∀o∈p.H.Objs,(o.length:Int)=p.H.Slots∧∀v∈o,0≤v∧v≤(p.H.Objs.length:Int)
 most:(p.H.Objs.length:Int)≤p.Most∧p.Most≤(p.H.Objs.length:Int)+3
 roots: ∃r,0≤r∧r≤(p.H.Objs.length:Int)∧p.Roots=bit r
 regs:(p.Regs.length:Int)=p.Mutators
 progs:(p.Progs.length:Int)=p.Mutators
 reg: ∀r∈p.Regs,(1≤(r.length:Int)∧(r.length:Int)≤3)∧∀v∈r,0≤v∧v≤(p.H.Objs.length:Int)
 prog: ∀(k:Nat) r ops,p.Regs[k]? =some r→p.Progs[k]? =some ops→(ops.length:Int)≤7∧∀o∈ops,ze6 o (r.length:Int) p.H.Slots
 picks:p.Picks=[]
end
end Go.Pe.G
namespace Go.Pe.G
open Go.Pe
noncomputable section
namespace B15
def XQ (m:zI):Prop:=0≤m.At∧m.At≤m.L.length∧m.L.length≤90
theorem uj {m:zI} (h:XQ m): ∃b m',zy m=some (b,m',())∧(0≤b∧b<256)∧XQ m':=by
 obtain ⟨h1,h2,h3⟩:=h
 rw [zb4,zw]
 by_cases h:(m.L.length:Int)≤m.At
 ·rw [if_pos h];exact ⟨_,_,rfl,by omega,h1,h2,h3⟩
 ·rw [if_neg h,yW (a:=m.At+1) (by omega) (by omega),yW (by omega) (by omega),Vt (by omega),List.getElem?_eq_getElem (by omega),Option.bind_some]
  exact ⟨_,_,rfl,by have:=(m.L[(m.At+1-1).toNat]'(by omega)).isLt;omega,show 0≤m.At+1 by omega,show m.At+1≤m.L.length by omega,h3⟩
theorem zxV {m:zI} (h:XQ m) {regs slots:Int} (hr:1≤regs) (hs:1≤slots): ∃o m',Xv regs slots m=some (o,m',())∧ze6 o regs slots∧XQ m':=by
 obtain ⟨b1,m1,e1,r1,k1⟩:=uj h
 obtain ⟨b2,m2,e2,r2,k2⟩:=uj k1
 obtain ⟨b3,m3,e3,r3,k3⟩:=uj k2
 obtain ⟨b4,m4,e4,r4,k4⟩:=uj k3
 have t1:=vu r1.1 (show (0:Int)<8 by omega)
 have t2:=vu r2.1 (show (0:Int)<regs by omega)
 have t3:=vu r3.1 (show (0:Int)<regs by omega)
 have t4:=vu r4.1 (show (0:Int)<slots by omega)
 have t5:=vu r3.1 (show (0:Int)<slots by omega)
 have hn: ¬regs=0:=by omega
 have hn2: ¬slots=0:=by omega
 rw [zdp,e1,Option.bind_some,VG t1.1 (by simpa using t1.2),Option.bind_some]
 have hx:b1.tmod 8=0∨b1.tmod 8=1∨b1.tmod 8=2∨b1.tmod 8=3∨b1.tmod 8=4∨b1.tmod 8=5∨b1.tmod 8=6∨b1.tmod 8=7:=by omega
 rcases hx with hx | hx | hx | hx | hx | hx | hx | hx<;>simp [hx,e2,e3,e4,hn,hn2]<;>refine ⟨_,_,⟨rfl,rfl⟩,?_,by assumption⟩<;>(unfold ze6;dsimp only;omega)
theorem zwh {s1:Int} {s2:Int} {s4:Int} {s5:Int} {s6:Int} {s7:Int} {s8:Int} {s9:Int} {s10:Int} {s11:Int} {s12:Int} {s13:BitVec 64} {s15:Int} {s16:Int} {s17:Int} {s18:Int} {s19:Int} {s20:Int} {s21:Int} {s22:Int} {s23:Int} {s24:BitVec 64} {s26:List (List Int)} {s27:List (List Int)} {s28:List (List zk)} {s29:List zm} {s30:List (List Int)} {s31:List (List Int)} {s32:List (List zk)} {s33:List zm} (hn:1≤s1∧s1≤6) (hs:1≤s23∧s23≤2) {mk:zI} (hm:XQ mk) :
  ∃mk' l,yh Yd (s1,s2,0,s4,s5,s6,s7,s8,s9,s10,s11,s12,s13,mk,s15,s16,s17,s18,s19,s20,s21,s22,s23,s24,[],s26,s27,s28,s29,s30,s31,s32,s33,())=some (.brk (s1,s2,s4,s5,s6,s7,s8,s9,s10,s11,s12,s13,mk',s15,s16,s17,s18,s19,s20,s21,s22,s23,s24,l,s26,s27,s28,s29,s30,s31,s32,s33,()))∧XQ mk'∧(l.length:Int)=s23∧∀v∈l,0≤v∧v≤s1:=by
 refine (uq (f:=Yd)
  (fun a=>∃i mk l,a=(s1,s2,i,s4,s5,s6,s7,s8,s9,s10,s11,s12,s13,mk,s15,s16,s17,s18,s19,s20,s21,s22,s23,s24,l,s26,s27,s28,s29,s30,s31,s32,s33,())∧XQ mk∧(0≤i∧i≤s23∧(l.length:Int)=i)∧∀v∈l,0≤v∧v≤s1)
  (fun a=>(s23-a.2.2.1).toNat)
  (fun o=>match o with | .brk b=>∃mk l,b=(s1,s2,s4,s5,s6,s7,s8,s9,s10,s11,s12,s13,mk,s15,s16,s17,s18,s19,s20,s21,s22,s23,s24,l,s26,s27,s28,s29,s30,s31,s32,s33,())∧XQ mk∧(l.length:Int)=s23∧∀v∈l,0≤v∧v≤s1 | _=>False) ?_
  (s1,s2,0,s4,s5,s6,s7,s8,s9,s10,s11,s12,s13,mk,s15,s16,s17,s18,s19,s20,s21,s22,s23,s24,[],s26,s27,s28,s29,s30,s31,s32,s33,()) ⟨0,mk,[],rfl,hm,by simp;omega,by simp⟩ (vc (by simp;omega))).elim fun o h=> ?_
 rotate_left
 ·obtain ⟨ho,hq⟩:=h
  cases o with
  | again a=>exact hq.elim
  | ret a=>exact hq.elim
  | brk b =>
   obtain ⟨mk',l,rfl,h1,h2,h3⟩:=hq
   exact ⟨mk',l,ho,h1,h2,h3⟩
 ·rintro _ ⟨i,mk,l,rfl,h1,h2,h3⟩
  rw [zeM,zw]
  by_cases hi:i<s23
  ·rw [if_pos hi]
   obtain ⟨b,mk',e,r,k⟩:=uj h1
   have w1:w64 (s1+1)=s1+1:=yW (by omega) (by omega)
   have t:=vu r.1 (show 0<s1+1 by omega)
   rw [e,Option.bind_some,w1,zw,if_neg (by omega),vN (by simp;omega),Option.bind_some,yW (a:=i+1) (by omega) (by omega)]
   refine ⟨_,rfl,⟨i+1,mk',l++[b.tmod (s1+1)],rfl,k,by simp;omega,fun v hv=> ?_⟩,?_⟩
   ·rcases List.mem_append.1 hv with hv | hv
    ·exact h3 v hv
    ·simp at hv;omega
   ·show (s23-(i+1)).toNat<(s23-i).toNat
    omega
  ·rw [if_neg hi]
   exact ⟨_,rfl,mk,l,rfl,h1,by omega,h3⟩
theorem zwY {s1:Int} {s3:Int} {s4:Int} {s5:Int} {s6:Int} {s7:Int} {s8:Int} {s9:Int} {s10:Int} {s11:Int} {s12:BitVec 64} {s14:Int} {s15:Int} {s16:Int} {s17:Int} {s18:Int} {s19:Int} {s20:Int} {s21:Int} {s22:Int} {s23:BitVec 64} {s24:List (List Int)} {s25:List (List Int)} {s26:List (List zk)} {s27:List zm} {s29:List (List Int)} {s30:List (List zk)} {s31:List zm} (hn:1≤s1∧s1≤6) (hs:1≤s22∧s22≤2) {mk:zI} (hm:XQ mk) :
  ∃mk' l,yh YU (s1,0,s3,s4,s5,s6,s7,s8,s9,s10,s11,s12,mk,s14,s15,s16,s17,s18,s19,s20,s21,s22,s23,s24,s25,s26,s27,[],s29,s30,s31,())=some (.brk (s1,s3,s4,s5,s6,s7,s8,s9,s10,s11,s12,mk',s14,s15,s16,s17,s18,s19,s20,s21,s22,s23,s24,s25,s26,s27,l,s29,s30,s31,()))∧XQ mk'∧(l.length:Int)=s1∧∀o∈l,(o.length:Int)=s22∧∀v∈o,0≤v∧v≤s1:=by
 refine (uq (f:=YU)
  (fun a=>∃i mk l,a=(s1,i,s3,s4,s5,s6,s7,s8,s9,s10,s11,s12,mk,s14,s15,s16,s17,s18,s19,s20,s21,s22,s23,s24,s25,s26,s27,l,s29,s30,s31,())∧XQ mk∧(0≤i∧i≤s1∧(l.length:Int)=i)∧∀o∈l,(o.length:Int)=s22∧∀v∈o,0≤v∧v≤s1)
  (fun a=>(s1-a.2.1).toNat)
  (fun o=>match o with | .brk b=>∃mk l,b=(s1,s3,s4,s5,s6,s7,s8,s9,s10,s11,s12,mk,s14,s15,s16,s17,s18,s19,s20,s21,s22,s23,s24,s25,s26,s27,l,s29,s30,s31,())∧XQ mk∧(l.length:Int)=s1∧∀o∈l,(o.length:Int)=s22∧∀v∈o,0≤v∧v≤s1 | _=>False) ?_
  (s1,0,s3,s4,s5,s6,s7,s8,s9,s10,s11,s12,mk,s14,s15,s16,s17,s18,s19,s20,s21,s22,s23,s24,s25,s26,s27,[],s29,s30,s31,()) ⟨0,mk,[],rfl,hm,by simp;omega,by simp⟩ (vc (by simp;omega))).elim fun o h=> ?_
 rotate_left
 ·obtain ⟨ho,hq⟩:=h
  cases o with
  | again a=>exact hq.elim
  | ret a=>exact hq.elim
  | brk b =>
   obtain ⟨mk',l,rfl,h1,h2,h3⟩:=hq
   exact ⟨mk',l,ho,h1,h2,h3⟩
 ·rintro _ ⟨i,mk,l,rfl,h1,h2,h3⟩
  rw [zf2,zw]
  by_cases hi:i<s1
  ·rw [if_pos hi]
   obtain ⟨mk',o,e,g1,g2,g3⟩:=zwh hn hs h1
   rw [e]
   simp only [Option.bind_some]
   rw [vN (by simp;omega),Option.bind_some,yW (a:=i+1) (by omega) (by omega)]
   refine ⟨_,rfl,⟨i+1,mk',l++[o],rfl,g1,by simp;omega,fun v hv=> ?_⟩,?_⟩
   ·rcases List.mem_append.1 hv with hv | hv
    ·exact h3 v hv
    ·simp at hv;subst hv;exact ⟨g2,g3⟩
   ·show (s1-(i+1)).toNat<(s1-i).toNat
    omega
  ·rw [if_neg hi]
   exact ⟨_,rfl,mk,l,rfl,h1,by omega,h3⟩
theorem zwd {s1:Int} {s2:Int} {s4:Int} {s5:Int} {s6:Int} {s7:Int} {s8:Int} {s9:Int} {s10:Int} {s11:Int} {s12:Int} {s13:BitVec 64} {s15:Int} {s16:Int} {s17:Int} {s18:Int} {s19:Int} {s20:Int} {s21:Int} {s22:Int} {s23:Int} {s24:BitVec 64} {s26:List (List Int)} {s27:List (List Int)} {s28:List (List zk)} {s29:List zm} {s30:List (List Int)} {s31:List (List Int)} {s32:List (List zk)} {s33:List zm} (hn:1≤s1∧s1≤6) {mk:zI} (hm:XQ mk) :
  ∃mk' l,yh Yf (s1,s2,0,s4,s5,s6,s7,s8,s9,s10,s11,s12,s13,mk,s15,s16,s17,s18,s19,s20,s21,s22,s23,s24,[],s26,s27,s28,s29,s30,s31,s32,s33,())=some (.brk (s1,s2,s4,s5,s6,s7,s8,s9,s10,s11,s12,s13,mk',s15,s16,s17,s18,s19,s20,s21,s22,s23,s24,l,s26,s27,s28,s29,s30,s31,s32,s33,()))∧XQ mk'∧(1≤(l.length:Int)∧(l.length:Int)≤3)∧∀v∈l,0≤v∧v≤s1:=by
 refine (uq (f:=Yf)
  (fun a=>∃i mk l,a=(s1,s2,i,s4,s5,s6,s7,s8,s9,s10,s11,s12,s13,mk,s15,s16,s17,s18,s19,s20,s21,s22,s23,s24,l,s26,s27,s28,s29,s30,s31,s32,s33,())∧XQ mk∧(0≤i∧i≤3∧(l.length:Int)=i)∧∀v∈l,0≤v∧v≤s1)
  (fun a=>(3-a.2.2.1).toNat)
  (fun o=>match o with | .brk b=>∃mk l,b=(s1,s2,s4,s5,s6,s7,s8,s9,s10,s11,s12,s13,mk,s15,s16,s17,s18,s19,s20,s21,s22,s23,s24,l,s26,s27,s28,s29,s30,s31,s32,s33,())∧XQ mk∧(1≤(l.length:Int)∧(l.length:Int)≤3)∧∀v∈l,0≤v∧v≤s1 | _=>False) ?_
  (s1,s2,0,s4,s5,s6,s7,s8,s9,s10,s11,s12,s13,mk,s15,s16,s17,s18,s19,s20,s21,s22,s23,s24,[],s26,s27,s28,s29,s30,s31,s32,s33,()) ⟨0,mk,[],rfl,hm,by simp,by simp⟩ (vc (by simp))).elim fun o h=> ?_
 rotate_left
 ·obtain ⟨ho,hq⟩:=h
  cases o with
  | again a=>exact hq.elim
  | ret a=>exact hq.elim
  | brk b =>
   obtain ⟨mk',l,rfl,h1,h2,h3⟩:=hq
   exact ⟨mk',l,ho,h1,h2,h3⟩
 ·rintro _ ⟨i,mk,l,rfl,h1,h2,h3⟩
  obtain ⟨b0,mk0,e0,r0,k0⟩:=uj h1
  have t0:=vu r0.1 (show (0:Int)<3 by omega)
  rw [ze4,e0,Option.bind_some,zw,yW (a:=1+b0.tmod 3) (by omega) (by omega)]
  by_cases hi:i<1+b0.tmod 3
  ·rw [if_pos hi]
   obtain ⟨b,mk',e,r,k⟩:=uj k0
   have w1:w64 (s1+1)=s1+1:=yW (by omega) (by omega)
   have t:=vu r.1 (show 0<s1+1 by omega)
   rw [e,Option.bind_some,w1,zw,if_neg (by omega),vN (by simp;omega),Option.bind_some,yW (a:=i+1) (by omega) (by omega)]
   refine ⟨_,rfl,⟨i+1,mk',l++[b.tmod (s1+1)],rfl,k,by simp;omega,fun v hv=> ?_⟩,?_⟩
   ·rcases List.mem_append.1 hv with hv | hv
    ·exact h3 v hv
    ·simp at hv;omega
   ·show (3-(i+1)).toNat<(3-i).toNat
    omega
  ·rw [if_neg hi]
   exact ⟨_,rfl,mk0,l,rfl,k0,by omega,h3⟩
theorem zvO {s1:Int} {s2:Int} {s4:Int} {s5:Int} {s6:Int} {s7:Int} {s8:Int} {s9:Int} {s10:Int} {s11:Int} {s12:Int} {s13:BitVec 64} {s15:Int} {s16:Int} {s17:Int} {s18:Int} {s19:Int} {s20:Int} {s21:Int} {s22:Int} {s23:Int} {s24:BitVec 64} {s25:List Int} {s27:List (List Int)} {s28:List (List Int)} {s29:List (List zk)} {s30:List zm} {s31:List (List Int)} {s32:List (List Int)} {s33:List (List zk)} {s34:List zm} (hr:1≤(s25.length:Int)) (hs:1≤s23∧s23≤2) {k0:Int} (hk:0≤k0∧k0<8) {mk:zI} (hm:XQ mk) :
  ∃mk' l,yh uZ (s1,s2,k0,s4,s5,s6,s7,s8,s9,s10,s11,s12,s13,mk,s15,s16,s17,s18,s19,s20,s21,s22,s23,s24,s25,[],s27,s28,s29,s30,s31,s32,s33,s34,())=some (.brk (s1,s2,s4,s5,s6,s7,s8,s9,s10,s11,s12,s13,mk',s15,s16,s17,s18,s19,s20,s21,s22,s23,s24,s25,l,s27,s28,s29,s30,s31,s32,s33,s34,()))∧XQ mk'∧(l.length:Int)≤7∧∀o∈l,ze6 o (s25.length:Int) s23:=by
 refine (uq (f:=uZ)
  (fun a=>∃i mk l,a=(s1,s2,i,s4,s5,s6,s7,s8,s9,s10,s11,s12,s13,mk,s15,s16,s17,s18,s19,s20,s21,s22,s23,s24,s25,l,s27,s28,s29,s30,s31,s32,s33,s34,())∧XQ mk∧(0≤i∧(l.length:Int)+i≤7)∧∀o∈l,ze6 o (s25.length:Int) s23)
  (fun a=>(a.2.2.1).toNat)
  (fun o=>match o with | .brk b=>∃mk l,b=(s1,s2,s4,s5,s6,s7,s8,s9,s10,s11,s12,s13,mk,s15,s16,s17,s18,s19,s20,s21,s22,s23,s24,s25,l,s27,s28,s29,s30,s31,s32,s33,s34,())∧XQ mk∧(l.length:Int)≤7∧∀o∈l,ze6 o (s25.length:Int) s23 | _=>False) ?_
  (s1,s2,k0,s4,s5,s6,s7,s8,s9,s10,s11,s12,s13,mk,s15,s16,s17,s18,s19,s20,s21,s22,s23,s24,s25,[],s27,s28,s29,s30,s31,s32,s33,s34,()) ⟨k0,mk,[],rfl,hm,by simp;omega,by simp⟩ (vc (by simp;omega))).elim fun o h=> ?_
 rotate_left
 ·obtain ⟨ho,hq⟩:=h
  cases o with
  | again a=>exact hq.elim
  | ret a=>exact hq.elim
  | brk b =>
   obtain ⟨mk',l,rfl,h1,h2,h3⟩:=hq
   exact ⟨mk',l,ho,h1,h2,h3⟩
 ·rintro _ ⟨i,mk,l,rfl,h1,h2,h3⟩
  rw [zfx,zw]
  by_cases hi:0<i
  ·rw [if_pos hi]
   obtain ⟨o,mk',e,r,k⟩:=zxV h1 hr hs.1
   rw [e,Option.bind_some,vN (by simp;omega),Option.bind_some,yW (a:=i-1) (by omega) (by omega)]
   refine ⟨_,rfl,⟨i-1,mk',l++[o],rfl,k,by simp;omega,fun v hv=> ?_⟩,?_⟩
   ·rcases List.mem_append.1 hv with hv | hv
    ·exact h3 v hv
    ·simp at hv;subst hv;exact r
   ·show (i-1).toNat<i.toNat
    omega
  ·rw [if_neg hi]
   exact ⟨_,rfl,mk,l,rfl,h1,by omega,h3⟩
theorem zvf {s1:Int} {s3:Int} {s4:Int} {s5:Int} {s6:Int} {s7:Int} {s8:Int} {s9:Int} {s10:Int} {s11:Int} {s12:BitVec 64} {s14:Int} {s15:Int} {s16:Int} {s17:Int} {s18:Int} {s19:Int} {s20:Int} {s21:Int} {s22:Int} {s23:BitVec 64} {s24:List (List Int)} {s25:List (List Int)} {s26:List (List zk)} {s27:List zm} {s28:List (List Int)} {s31:List zm} (hn:1≤s1∧s1≤6) (hm0:0≤s15∧s15≤2) (hs:1≤s22∧s22≤2) {mk:zI} (hm:XQ mk) :
  ∃regs progs,yh Yb (s1,0,s3,s4,s5,s6,s7,s8,s9,s10,s11,s12,mk,s14,s15,s16,s17,s18,s19,s20,s21,s22,s23,s24,s25,s26,s27,s28,[],[],s31,())=some (.brk (s3,s4,s5,s6,s7,s8,s9,s10,s11,s12,s14,s15,s16,s17,s18,s19,s20,s21,s22,s23,s24,s25,s26,s27,s28,regs,progs,s31,()))∧(regs.length:Int)=s15∧(regs.length=progs.length)∧(∀r∈regs,(1≤(r.length:Int)∧(r.length:Int)≤3)∧∀v∈r,0≤v∧v≤s1)∧∀(k:Nat) r ops,regs[k]? =some r→progs[k]? =some ops→(ops.length:Int)≤7∧∀o∈ops,ze6 o (r.length:Int) s22:=by
 refine (uq (f:=Yb)
  (fun a=>∃i mk regs progs,a=(s1,i,s3,s4,s5,s6,s7,s8,s9,s10,s11,s12,mk,s14,s15,s16,s17,s18,s19,s20,s21,s22,s23,s24,s25,s26,s27,s28,regs,progs,s31,())∧XQ mk∧(0≤i∧i≤s15∧(regs.length:Int)=i)∧(regs.length=progs.length)∧(∀r∈regs,(1≤(r.length:Int)∧(r.length:Int)≤3)∧∀v∈r,0≤v∧v≤s1)∧∀(k:Nat) r ops,regs[k]? =some r→progs[k]? =some ops→(ops.length:Int)≤7∧∀o∈ops,ze6 o (r.length:Int) s22)
  (fun a=>(s15-a.2.1).toNat)
  (fun o=>match o with | .brk b=>∃regs progs,b=(s3,s4,s5,s6,s7,s8,s9,s10,s11,s12,s14,s15,s16,s17,s18,s19,s20,s21,s22,s23,s24,s25,s26,s27,s28,regs,progs,s31,())∧(regs.length:Int)=s15∧(regs.length=progs.length)∧(∀r∈regs,(1≤(r.length:Int)∧(r.length:Int)≤3)∧∀v∈r,0≤v∧v≤s1)∧∀(k:Nat) r ops,regs[k]? =some r→progs[k]? =some ops→(ops.length:Int)≤7∧∀o∈ops,ze6 o (r.length:Int) s22 | _=>False) ?_
  (s1,0,s3,s4,s5,s6,s7,s8,s9,s10,s11,s12,mk,s14,s15,s16,s17,s18,s19,s20,s21,s22,s23,s24,s25,s26,s27,s28,[],[],s31,()) ⟨0,mk,[],[],rfl,hm,by simp;omega,rfl,by simp,by simp⟩ (vc (by simp;omega))).elim fun o h=> ?_
 rotate_left
 ·obtain ⟨ho,hq⟩:=h
  cases o with
  | again a=>exact hq.elim
  | ret a=>exact hq.elim
  | brk b =>
   obtain ⟨regs,progs,rfl,h⟩:=hq
   exact ⟨regs,progs,ho,h⟩
 ·rintro _ ⟨i,mk,regs,progs,rfl,h1,h2,h3,h4,h5⟩
  rw [zeT,zw]
  by_cases hi:i<s15
  ·rw [if_pos hi]
   obtain ⟨mk1,r,e,g1,g2,g3⟩:=zwd hn h1
   rw [e]
   simp only [Option.bind_some]
   rw [zw,if_neg (by omega)]
   obtain ⟨b,mk2,e2,r2,k2⟩:=uj g1
   rw [e2,Option.bind_some]
   obtain ⟨mk3,ops,e3,f1,f2,f3⟩:=zvO (s25:=r) g2.1 hs (vu r2.1 (show (0:Int)<8 by omega)) k2
   rw [e3]
   simp only [Option.bind_some]
   rw [vN (by simp;omega),Option.bind_some,vN (by simp;omega),Option.bind_some,yW (a:=i+1) (by omega) (by omega)]
   refine ⟨_,rfl,⟨i+1,mk3,regs++[r],progs++[ops],rfl,f1,by simp;omega,by simp [h3],fun v hv=> ?_,fun k r' ops' hk1 hk2=> ?_⟩,?_⟩
   ·rcases List.mem_append.1 hv with hv | hv
    ·exact h4 v hv
    ·simp at hv;subst hv;exact ⟨g2,g3⟩
   ·rcases Nat.lt_or_ge k regs.length with hlt | hge
    ·rw [List.getElem?_append_left hlt] at hk1
     rw [List.getElem?_append_left (by omega)] at hk2
     exact h5 k r' ops' hk1 hk2
    ·rw [List.getElem?_append_right hge] at hk1
     rw [List.getElem?_append_right (by omega),←h3] at hk2
     have hk0:k-regs.length=0:=by
      have:=(List.getElem?_eq_some_iff.1 hk1).1
      simpa using this
     rw [hk0] at hk1 hk2
     simp at hk1 hk2
     subst hk1;subst hk2
     exact ⟨f2,f3⟩
   ·show (s15-(i+1)).toNat<(s15-i).toNat
    omega
  ·rw [if_neg hi]
   exact ⟨_,rfl,regs,progs,rfl,by omega,h3,h4,h5⟩
theorem zwF (l:List (BitVec 8)): ∃p,U5 l=some (p,())∧zC p:=by
 rw [zin,zw]
 obtain ⟨m,em,hl⟩: ∃m,cut l 0 (if 90<(l.length:Int) then 90 else (l.length:Int))=some m∧m.length≤90:=by
  unfold cut
  by_cases h:90<(l.length:Int)
  ·have h2:(90:Int)≤l.length:=by omega
   rw [if_pos h];exact ⟨l.take 90,by simp [h2],List.length_take_le _ _⟩
  ·rw [if_neg h];exact ⟨l,by simp,by omega⟩
 rw [em,Option.bind_some]
 obtain ⟨b1,m1,e1,r1,k1⟩:=uj (m:=⟨m,0⟩) ⟨by simp,by simp,hl⟩
 obtain ⟨b2,m2,e2,r2,k2⟩:=uj k1
 obtain ⟨b3,m3,e3,r3,k3⟩:=uj k2
 obtain ⟨b4,m4,e4,r4,k4⟩:=uj k3
 obtain ⟨b5,m5,e5,r5,k5⟩:=uj k4
 obtain ⟨b6,m6,e6,r6,k6⟩:=uj k5
 obtain ⟨b7,m7,e7,r7,k7⟩:=uj k6
 obtain ⟨b8,m8,e8,r8,k8⟩:=uj k7
 obtain ⟨b9,m9,e9,r9,k9⟩:=uj k8
 obtain ⟨b10,m10,e10,r10,k10⟩:=uj k9
 simp only [e1,e2,e3,e4,e5,e6,e7,e8,e9,e10,Option.bind_some]
 have t1:=vu r1.1 (show (0:Int)<3 by omega)
 have t2:=vu r2.1 (show (0:Int)<3 by omega)
 have t3:=vu r3.1 (show (0:Int)<3 by omega)
 have t4:=vu r4.1 (show (0:Int)<2 by omega)
 have t5:=vu r5.1 (show (0:Int)<3 by omega)
 have t6:=vu r6.1 (show (0:Int)<4 by omega)
 have t7:=vu r7.1 (show (0:Int)<4 by omega)
 have t8:=vu r8.1 (show (0:Int)<2 by omega)
 have t9:=vu r9.1 (show (0:Int)<6 by omega)
 have t10:=vu r10.1 (show (0:Int)<4 by omega)
 rw [yW (a:=1+b9.tmod 6) (by omega) (by omega),yW (a:=1+b1.tmod 3) (by omega) (by omega),yW (a:=1+b3.tmod 3) (by omega) (by omega),yW (a:=1+b4.tmod 2) (by omega) (by omega),yW (a:=1+b5.tmod 3) (by omega) (by omega),
  yW (a:=1+b9.tmod 6+b10.tmod 4) (by omega) (by omega),yW (a:=1+b8.tmod 2) (by omega) (by omega)]
 obtain ⟨m11,objs,e11,g1,g2,g3⟩:=zwY (s1:=1+b9.tmod 6) (s22:=1+b8.tmod 2) (by omega) (by omega) k10
 rw [e11]
 simp only [Option.bind_some]
 obtain ⟨b12,m12,e12,r12,k12⟩:=uj g1
 rw [e12,Option.bind_some,yW (a:=1+b9.tmod 6+1) (by omega) (by omega),zw,if_neg (by omega)]
 have t12:=vu r12.1 (show (0:Int)<1+b9.tmod 6+1 by omega)
 rw [zkL,Option.bind_some]
 obtain ⟨regs,progs,e13,f1,f2,f3,f4⟩:=zvf (s1:=1+b9.tmod 6) (s15:=b2.tmod 3) (s22:=1+b8.tmod 2) (by omega) (by omega) (by omega) k12
 rw [e13]
 simp only [Option.bind_some]
 refine ⟨_,rfl,?_⟩
 constructor<;>dsimp only
 case objs=>intro o ho;rw [g2];exact g3 o ho
 case roots=>exact ⟨b12.tmod (1+b9.tmod 6+1),by omega,by omega,by simp⟩
 case reg=>rw [g2];exact f3
 case prog=>exact f4
 all_goals first | omega | rfl
end B15
end
end Go.Pe.G
namespace Go.Pe.G
open Go.Pe
noncomputable section
theorem UE {α β B C:Type} {f:List α×Int×Int×β→Option (xz (List α×Int×Int×β) B C)} {l:List α} {e:β} {b:B} (hl:l.length<1000000)
  (h1: ∀(i:Nat) (x:α),l[i]? =some x→f (l,(l.length:Int),(i:Int),e)=some (.again (l,(l.length:Int),((i+1:Nat):Int),e)))
  (h2:f (l,(l.length:Int),(l.length:Int),e)=some (.brk b)):yh f (l,(l.length:Int),0,e)=some (.brk b):=by
 refine (uq (f:=f) (fun a=>∃i:Nat,a=(l,(l.length:Int),(i:Int),e)∧i≤l.length) (fun a=>l.length-a.2.2.1.toNat) (fun o=>o= .brk b) ?_ (l,(l.length:Int),0,e) ⟨0,rfl,by omega⟩ (vc (by simp;omega))).elim fun o h=> ?_
 rotate_left
 ·rw [h.1,h.2]
 ·rintro _ ⟨i,rfl,hi⟩
  rcases Nat.lt_or_ge i l.length with hlt | hge
  ·refine ⟨_,h1 i _ (List.getElem?_eq_getElem hlt),⟨i+1,rfl,hlt⟩,?_⟩
   show l.length-((i+1:Nat):Int).toNat<l.length-(i:Int).toNat
   omega
  ·have:i=l.length:=by omega
   subst this
   exact ⟨_,h2,rfl⟩
theorem w9 {α:Type} {l:List α} {i:Nat} {x:α} (h:l[i]? =some x):idx l (i:Int)=some x:=by
 rw [Vt (by omega)];simpa using h
theorem uA {α:Type} {l:List α} {i:Nat} {x:α} (h:l[i]? =some x):(i:Int)<(l.length:Int):=by
 have:=(List.getElem?_eq_some_iff.1 h).1;omega
theorem xy {i:Nat} (h:i<1000000):w64 ((i:Int)+1)=((i+1:Nat):Int):=by
 rw [yW (by omega) (by omega)];omega
theorem zcZ (a b c:Int):ud a b c=some (decide (b≤a∧a≤c),()):=by
 rw [zlH,zw]
 by_cases h:b≤a
 ·rw [if_pos h];simp [h]
 ·rw [if_neg h];simp [h]
theorem zsN {l:List Int} {h:zG} (hl:l.length<1000000) (hv: ∀v∈l,0≤v∧v≤(h.Objs.length:Int)):xW l h=some (false,()):=by
 rw [YB,Xo,UE (b:=()) hl (fun i x hx=> ?_) (by rw [vy];simp)]
 ·rfl
 ·have hm:=hv x (List.mem_of_getElem? hx)
  have hlt:=uA hx
  rw [vy,zw,if_pos hlt,w9 hx,Option.bind_some,zjj,zw,if_neg (show ¬x<0 by omega),Option.bind_some,xy (by omega)]
  simp [show ¬(h.Objs.length:Int)<x by omega]
theorem zuL {l:List Int} {n:Int} (hl:l.length<1000000) (hv: ∀v∈l,0≤v∧v≤n):wn l n=some (false,()):=by
 rw [Y1,XI,UE (b:=()) hl (fun i x hx=> ?_) (by rw [vS];simp)]
 ·rfl
 ·have hm:=hv x (List.mem_of_getElem? hx)
  have hlt:=uA hx
  rw [vS,w9 hx,Option.bind_some,zk8,zcZ,Option.bind_some,Option.bind_some,xy (by omega),zw,if_pos hlt]
  simp [hm]
theorem zus {l:List (List Int)} {h:zG} (hl:l.length<1000000) (hs:h.Slots<1000000) (hv: ∀o∈l,(o.length:Int)=h.Slots∧∀v∈o,0≤v∧v≤(h.Objs.length:Int)):xZ l h=some (false,()):=by
 rw [YD,Y4,UE (b:=()) hl (fun i x hx=> ?_) (by rw [vv];simp)]
 ·rfl
 ·have hm:=hv x (List.mem_of_getElem? hx)
  have hlt:=uA hx
  rw [vv,w9 hx,Option.bind_some,zkS,yD,if_pos hm.1,zsN (by omega) hm.2,Option.bind_some,Option.bind_some,xy (by omega),zw,if_pos hlt]
  rfl
theorem zmO {r n:Int} (h:0≤r∧r<n) (h2:n≤4):z7 r n=some (true,()):=by
 rw [zk6,zw,if_pos h.1,zw]
 rw [if_neg (by omega)]
 simp [h.2]
theorem zwm {o:zk} {regs slots:Int} (h:ze6 o regs slots) (h2:regs≤4) (h3:slots≤4):zeO o regs slots=some (true,()):=by
 obtain ⟨hr,h⟩:=h
 have e1:=zmO hr h2
 have h4: ¬4<slots:=by omega
 rw [znA]
 rcases h with ⟨hk | hk,ha,hs⟩ | ⟨hk,ha,hs⟩ | ⟨hk | hk,ha,hs⟩
 ·have e2:=zmO ha h2
  simp [hk,e1,e2,hs.1,hs.2,h4]
 ·have e2:=zmO ha h2
  simp [hk,e1,e2,hs.1,hs.2,h4]
 ·have e2:=zmO ha h2
  simp [hk,e1,e2,hs]
 ·simp [hk,e1,ha,hs]
 ·simp [hk,e1,ha,hs]
theorem zwL {l:List zk} {regs slots:Int} (hl:(l.length:Int)≤64) (h: ∀o∈l,ze6 o regs slots) (h2:regs≤4) (h3:slots≤4):zg8 l regs slots=some (true,()):=by
 rw [zn3,zw,if_pos hl,ZQ,Z7,UE (b:=()) (by omega) (fun i x hx=> ?_) (by rw [wQ];simp)]
 ·rfl
 ·have hlt:=uA hx
  rw [wQ,w9 hx,Option.bind_some,zly,zwm (h x (List.mem_of_getElem? hx)) h2 h3,Option.bind_some,Option.bind_some,xy (by omega),zw,if_pos hlt]
  rfl
theorem zuo (a b:Int):zfv [] a b=some (true,()):=by
 rw [zmr,Zl,ZD,UE (b:=()) (by simp) (fun i x hx=>by simp at hx) (by rw [Zj];simp)]
 rfl
def WO (n:Int):BitVec 64:=if n<1 then 0#64 else 18446744073709551615#64 >>> (64-min n 64).toNat
theorem ztV (n:Int) (h:0≤n):zg0 n=some (WO n,()):=by
 rw [zoa,zw]
 unfold WO
 by_cases h1:n<1
 ·rw [if_pos h1,if_pos h1]
 ·rw [if_neg h1,if_neg h1]
  simp only [zw]
  have e:(if 64<n then (64:Int) else n)=min n 64:=by
   by_cases h2:64<n
   ·rw [if_pos h2];omega
   ·rw [if_neg h2];omega
  rw [e,yW (by omega) (by omega),if_neg (by omega),Nat.min_eq_left (by omega)]
theorem zo8: ∀(r n:Fin 7),r.1≤n.1→bit (r.1:Int)&&& ~~~WO (n.1:Int)=0#64:=by decide
theorem zls {p:zb} (h:zC p):p.Roots&&& ~~~WO (p.H.Objs.length:Int)=0#64:=by
 obtain ⟨r,h1,h2,h3⟩:=h.roots
 have hn:=h.n
 have:=zo8 ⟨r.toNat,by omega⟩ ⟨p.H.Objs.length,by omega⟩ (by show r.toNat≤p.H.Objs.length;omega)
 rw [h3]
 simpa [Int.toNat_of_nonneg h1] using this
theorem ztw {p:zb} (h:zC p):U6 p=some (true,()):=by
 obtain ⟨h1,h2,h3,h4,h5,h6,h7,_⟩:=h
 rw [ziL]
 simp only [zcZ,Option.bind_some,zw]
 rw [if_pos (by omega),if_pos (by omega),if_pos (by omega),if_pos (by omega),if_pos (by omega),if_pos (by split<;>omega)]
 have:(if p.Price<p.Limit then p.Limit else p.Price)≤1000000:=by split<;>omega
 simp [this]
theorem ztM {p:zb} (h:zC p):zfl p.H=some (true,()):=by
 have:=h.slots
 have:=h.n
 rw [zmz,zw,if_pos (by omega),zw,if_pos (by omega),zw,if_pos (by omega),zus (by omega) (by omega) h.objs]
 rfl
theorem zsT {p:zb} (h:zC p):zfb p=some (true,()):=by
 have hn:=h.n
 have hm:=h.most
 have hsl:=h.slots
 have hmt:=h.mt
 have hrl:=h.regs
 have hpl:=h.progs
 rw [zmP,ztw h]
 simp only [Option.bind_some,Bool.not_true,cond_false,ztM h,zcZ]
 rw [show decide ((p.H.Objs.length:Int)≤p.Most∧p.Most≤64)=true by simp;omega]
 simp only [Bool.not_true,cond_false,ztV _ (show (0:Int)≤(p.H.Objs.length:Int) by omega),Option.bind_some,znV,zls h,decide_true,yD,if_pos h.regs,if_pos h.progs]
 rw [UE (b:=(p,())) (by omega) (fun i x hx=> ?_) (by rw [zdo];simp)]
 ·simp [h.picks,zuo]
 ·have hlt:=uA hx
  have hr:=h.reg x (List.mem_of_getElem? hx)
  obtain ⟨ops,hops⟩: ∃ops,p.Progs[i]? =some ops:=⟨_,List.getElem?_eq_getElem (by omega)⟩
  obtain ⟨o1,o2⟩:=h.prog i x ops hx hops
  rw [zdo,zw,if_pos hlt,w9 hx]
  simp only [Option.bind_some,zcZ]
  rw [show decide (1≤(x.length:Int)∧(x.length:Int)≤4)=true by simp;omega]
  simp only [Bool.not_true,cond_false,zuL (show x.length<1000000 by omega) hr.2,Option.bind_some,w9 hops,zwL (show (ops.length:Int)≤64 by omega) o2 (show (x.length:Int)≤4 by omega) (show p.H.Slots≤4 by omega),xy (show i<1000000 by omega)]
end
end Go.Pe.G
namespace Go.Pe.G
open Go.Pe
noncomputable section
theorem ze8 {n:Int} (h:0≤n) (h2:n<4294967296):V3 n=some n.toNat:=by rw [zpa];simp [h,h2]
theorem zoZ {n:Int} (h:0<n) (h2:n<4294967296):zdc n=some n.toNat:=by rw [znD];simp [h,h2]
def znN (l:List Int):BitVec 64:=l.foldl (fun s o=>s|||bit o) 0#64
def Yh (p:zb):BitVec 64:=p.Regs.foldl (fun s l=>s|||znN l) p.Roots
def zxR (a1:BitVec 64):BitVec 64 :=
 let a:=((a1 >>> 1)&&&6148914691236517205#64)+(a1&&&6148914691236517205#64)
 let b:=((a >>> 2)&&&3689348814741910323#64)+(a&&&3689348814741910323#64)
 let c:=((b >>> 4)+b)&&&1085102592571150095#64
 let d:=c+(c >>> 8)
 let e:=d+(d >>> 16)
 e+(e >>> 32)
def cnt (s:BitVec 64):Int:=(BitVec.ofInt 64 (zxR s).toInt&&&BitVec.ofInt 64 127).toInt
theorem zu1 (s:BitVec 64):zhl s=some (cnt s,()):=by
 rw [zn8,zhI,zqE];rfl
theorem zig {m:List Int} (h:m.length<4294967296):ul m=some (m,()):=by
 rw [zdS,List.nil_append,vN h,Option.bind_some]
 cases m with
 | nil=>simp [zgn]
 | cons a l=>simp
theorem zxy {l:List Int} (hl:l.length<1000000):zma l=some (znN l,()):=by
 rw [zrZ]
 refine (uq (f:=zhc) (fun a=>∃i:Nat,a=((l.take i).foldl (fun s o=>s|||bit o) 0#64,l,(l.length:Int),(i:Int),())∧i≤l.length) (fun a=>l.length-a.2.2.2.1.toNat) (fun o=>o= .brk (znN l,())) ?_ (0#64,l,(l.length:Int),0,()) ⟨0,rfl,by omega⟩ (vc (by simp;omega))).elim fun o h=> ?_
 rotate_left
 ·rw [h.1,h.2];rfl
 ·rintro _ ⟨i,rfl,hi⟩
  rw [znP,zw]
  rcases Nat.lt_or_ge i l.length with hlt | hge
  ·have hx:=List.getElem?_eq_getElem hlt
   rw [if_pos (by omega),w9 hx,Option.bind_some,zkL,Option.bind_some,xy (by omega)]
   refine ⟨_,rfl,⟨i+1,?_,hlt⟩,?_⟩
   ·rw [List.take_add_one,hx];simp only [Option.toList_some,List.foldl_append,List.foldl_cons,List.foldl_nil]
   ·show l.length-((i+1:Nat):Int).toNat<l.length-(i:Int).toNat
    omega
  ·rw [if_neg (by omega)]
   have:i=l.length:=by omega
   subst this
   exact ⟨_,rfl,by rw [List.take_length];rfl⟩
theorem ztP {p:zb} (hl:p.Regs.length<1000000) (hr: ∀r∈p.Regs,r.length<1000000):zfI p=some (Yh p,()):=by
 rw [zmo]
 refine (uq (f:=zbn) (fun a=>∃i:Nat,a=((p.Regs.take i).foldl (fun s l=>s|||znN l) p.Roots,p.Regs,(p.Regs.length:Int),(i:Int),())∧i≤p.Regs.length) (fun a=>p.Regs.length-a.2.2.2.1.toNat) (fun o=>o= .brk (Yh p,())) ?_ (p.Roots,p.Regs,(p.Regs.length:Int),0,()) ⟨0,rfl,by omega⟩ (vc (by simp;omega))).elim fun o h=> ?_
 rotate_left
 ·rw [h.1,h.2];rfl
 ·rintro _ ⟨i,rfl,hi⟩
  rw [zjE,zw]
  rcases Nat.lt_or_ge i p.Regs.length with hlt | hge
  ·have hx:=List.getElem?_eq_getElem hlt
   rw [if_pos (by omega),w9 hx,Option.bind_some,zxy (hr _ (List.getElem_mem hlt)),Option.bind_some,xy (by omega)]
   refine ⟨_,rfl,⟨i+1,?_,hlt⟩,?_⟩
   ·rw [List.take_add_one,hx];simp only [Option.toList_some,List.foldl_append,List.foldl_cons,List.foldl_nil]
   ·show p.Regs.length-((i+1:Nat):Int).toNat<p.Regs.length-(i:Int).toNat
    omega
  ·rw [if_neg (by omega)]
   have:i=p.Regs.length:=by omega
   subst this
   exact ⟨_,rfl,by rw [List.take_length];rfl⟩
theorem zu0 {l:List (List Int)} (hl:l.length<1000000) (h: ∀r∈l,r.length<1000000):wM l=some (l,()):=by
 have key: ∀n:Int,n=(l.length:Int)→yh yQ (n,0,l,())=some (.brk (l,())):=by
  rintro _ rfl
  refine (uq (f:=yQ) (fun a=>∃i:Nat,a=((l.length:Int),(i:Int),l,())∧i≤l.length) (fun a=>l.length-a.2.1.toNat) (fun o=>o= .brk (l,())) ?_ ((l.length:Int),0,l,()) ⟨0,rfl,by omega⟩ (vc (by simp;omega))).elim fun o h=> ?_
  rotate_left
  ·rw [h.1,h.2]
  ·rintro _ ⟨i,rfl,hi⟩
   rw [Y9,zw]
   rcases Nat.lt_or_ge i l.length with hlt | hge
   ·have hx:=List.getElem?_eq_getElem hlt
    have hr:=h _ (List.getElem_mem hlt)
    have e:Ym l (i:Int)=some i:=by rw [VG (by omega) (by omega)];simp
    rw [if_pos (by omega),e]
    simp only [Option.bind_some]
    rw [hx,Option.bind_some,zig (by omega),Option.bind_some,xy (by omega)]
    refine ⟨_,rfl,⟨i+1,by simp,hlt⟩,?_⟩
    show l.length-((i+1:Nat):Int).toNat<l.length-(i:Int).toNat
    omega
   ·rw [if_neg (by omega)]
    have:i=l.length:=by omega
    subst this
    exact ⟨_,rfl,rfl⟩
 have hc:V3 (l.length:Int)=some l.length:=by rw [ze8 (by omega) (by omega)];simp
 rw [X2]
 simp only [decide_true,cond_true,hc,Option.bind_some,List.length_replicate]
 cases l with
 | nil=>simp;rw [key 0 rfl];rfl
 | cons a r=>simp only [List.isEmpty_cons,cond_false];rw [key _ rfl];rfl
def zda (cap:Int):List (BitVec 64):=[1#64,1#64]++List.replicate cap.toNat 0#64
theorem zsf {c:Int} (h:1≤c) (h2:c≤64):zdO c=some (zda c,()):=by
 have e:(if 64<(if c<1 then (1:Int) else c) then (64:Int) else (if c<1 then (1:Int) else c))=c:=by
  rw [if_neg (show ¬c<1 by omega),if_neg (by omega)]
 have w:w64 (2+c)=2+c:=yW (by omega) (by omega)
 have hc:V3 (2+c)=some (2+c.toNat):=by rw [ze8 (by omega) (by omega)];congr 1;omega
 rw [zlM]
 simp only [zw,e,w,if_true,hc,Option.bind_some]
 rw [VG (by omega) (by simp;omega),Option.bind_some,VG (by omega) (by simp;omega),Option.bind_some]
 have e2:List.replicate (2+c.toNat) 0#64=0#64::0#64::List.replicate c.toNat 0#64:=by rw [Nat.add_comm 2];rfl
 rw [e2];rfl
theorem zsS {m:Int} (h:0≤m) (h2:m≤16):zft m=some (⟨0,0,0,List.replicate m.toNat 0⟩,()):=by
 have e:(if (if 16<m then (16:Int) else m)<0 then (0:Int) else (if 16<m then (16:Int) else m))=m:=by
  rw [if_neg (show ¬16<m by omega),if_neg (by omega)]
 have hc:V3 m=some m.toNat:=ze8 (by omega) (by omega)
 rw [zmJ]
 simp only [zw,e,if_true,hc,Option.bind_some]
def links (m:List (BitVec 64)) (next:Int):List Int→List (BitVec 64)
 | []=>m
 | [a]=>st m (wc (next+a)) 0#64
 | a::b::l=>links (st m (wc (next+a)) (BitVec.ofInt 64 b)) next (b::l)
def zaC (m:List (BitVec 64)) (head next:Int) (l:List Int):List (BitVec 64):=st (links m next l) head (yX 0#64 (l.headD 0))
theorem Zu (m:List (BitVec 64)) (a:Int) (v:BitVec 64):(st m a v).length=m.length:=by unfold st;split<;>simp
theorem zaY: ∀(l:List Int) (m:List (BitVec 64)) (n:Int),(links m n l).length=m.length
 | [],_,_=>rfl
 | [a],m,n=>Zu _ _ _
 | a::b::l,m,n=>by simp only [links];rw [zaY (b::l),Zu]
theorem zmi (m:List (BitVec 64)) (h n:Int) (l:List Int):(zaC m h n l).length=m.length:=by unfold zaC;rw [Zu,zaY]
theorem zl0 {head next:Int} {l:List Int} (hl:l.length<1000000): ∀(k:Nat) (m:List (BitVec 64)) (i:Nat),l.length-i=k→i≤l.length→m.length<4294967296 →
  ∀n,k<n→Z3 zcv n (m,head,next,l,(l.length:Int),(i:Int),())=some (.brk (links m next (l.drop i),head,l,()))
 | 0,m,i,hk,hi,hm,n+1,hn=>by
  have:i=l.length:=by omega
  subst this
  simp only [Z3]
  rw [zd3,zw,if_neg (by omega),Option.bind_some,List.drop_length];rfl
 | k+1,m,i,hk,hi,hm,n+1,hn=>by
  have hlt:i<l.length:=by omega
  have hx:=List.getElem?_eq_getElem hlt
  simp only [Z3]
  rw [zd3,zw,if_pos (by omega),xy (by omega),zw,un]
  by_cases h2:i+1<l.length
  ·have hy:=List.getElem?_eq_getElem h2
   have ed:l.drop i=l[i]::l[i+1]::l.drop (i+2):=by
    rw [List.drop_eq_getElem_cons hlt,List.drop_eq_getElem_cons h2]
   rw [if_pos (by omega),w9 hy,Option.bind_some,w9 hx,Option.bind_some,zar hm,Option.bind_some,Option.bind_some]
   dsimp only
   rw [zl0 hl k _ (i+1) (by omega) (by omega) (by rw [Zu];exact hm) n (by omega),ed]
   rw [List.drop_eq_getElem_cons h2];rfl
  ·have ed:l.drop i=[l[i]]:=by
    rw [List.drop_eq_getElem_cons hlt,List.drop_eq_nil_of_le (by omega)]
   rw [if_neg (by omega),w9 hx,Option.bind_some,zar hm,Option.bind_some,Option.bind_some]
   dsimp only
   rw [zl0 hl k _ (i+1) (by omega) (by omega) (by rw [Zu];exact hm) n (by omega),ed,List.drop_eq_nil_of_le (by omega)]
   rfl
theorem zpf {m:List (BitVec 64)} (hm:m.length<4294967296) {head next:Int} {l:List Int} (hl:l.length<1000000):zc2 m head next l=some (zaC m head next l,()):=by
 have e:=zl0 (head:=head) (next:=next) hl l.length m 0 (by omega) (by omega) hm WF (vc (by omega))
 rw [show ((0:Nat):Int)=0 from rfl] at e
 rw [zoj,zaA,e]
 simp only [Option.bind_some,List.drop_zero,zw]
 unfold zaC
 cases l with
 | nil =>
  rw [if_neg (by simp),zeG,Option.bind_some,zar (by rw [zaY];exact hm)];rfl
 | cons a r =>
  have:idx (a::r) 0=some a:=by rw [Vt (by omega)];rfl
  rw [if_pos (by simp),this,Option.bind_some,zeG,Option.bind_some,zar (by rw [zaY];exact hm)];rfl
def zpW:Nat→BitVec 64→Option (List Int)
 | 0,_=>none
 | f+1,s=>bif decide (s=0#64) then some [] else (zpW f (s&&&(s-1#64))).map fun l=>(((Go.Lib.ctz 64 s.toNat:Nat):Int)+1)::l
theorem zsb: ∀t:Fin 64,zpW 66 (BitVec.ofNat 64 t.1)=some (((List.range 6).filter fun i=>(BitVec.ofNat 64 t.1).getLsbD i).map fun i:Nat=>(i:Int)+1):=by decide +kernel
def W7 (s:BitVec 64):List Int:=((List.range 6).filter fun i=>s.getLsbD i).map fun i:Nat=>(i:Int)+1
theorem zrz {s:BitVec 64} (h:s&&& ~~~63#64=0#64): ∃t:Fin 64,s=BitVec.ofNat 64 t.1:=by
 have h2:s=s&&&63#64:=by
  apply BitVec.eq_of_getLsbD_eq
  intro i hi
  have:=congrArg (fun x=>x.getLsbD i) h
  simp only [BitVec.getLsbD_and,BitVec.getLsbD_not,hi,decide_true,Bool.true_and,BitVec.getLsbD_zero] at this ⊢
  cases h1:s.getLsbD i<;>cases h3:(63#64:BitVec 64).getLsbD i<;>simp_all
 have h3:s.toNat<64:=by
  rw [h2,BitVec.toNat_and]
  exact Nat.lt_of_le_of_lt Nat.and_le_right (by decide)
 exact ⟨⟨s.toNat,h3⟩,by simp⟩
theorem zx6: ∀t:Fin 64,Go.Lib.ctz 64 t.1≤64:=by decide +kernel
theorem zpc: ∀(f:Nat) (s:BitVec 64),s.toNat<64→zaZ f s=zpW f s
 | 0,_,_=>rfl
 | f+1,s,h=>by
  simp only [zaZ,zpW]
  rw [zpc f _ (by rw [BitVec.toNat_and];exact Nat.lt_of_le_of_lt Nat.and_le_left h)]
  have:Go.Lib.ctz 64 s.toNat≤64:=zx6 ⟨s.toNat,h⟩
  have e:w64 (tz s+1)=((Go.Lib.ctz 64 s.toNat:Nat):Int)+1:=by
   unfold tz
   exact yW (by omega) (by omega)
  rw [e]
theorem znI: ∀(l acc:List Int),(acc.length+l.length)<4294967296→Z8 zdW l (acc,())=some (acc++l,())
 | [],acc,_=>by simp [Z8]
 | a::l,acc,h=>by
  simp only [List.length_cons] at h
  rw [Z8,zmg,vN (by simp;omega),Option.bind_some,Option.bind_some,znI l _ (by simp;omega)]
  simp
theorem zuI (s:BitVec 64):(W7 s).length≤6:=by
 unfold W7
 rw [List.length_map]
 exact Nat.le_trans (List.length_filter_le _ _) (by simp)
theorem zvW {s:BitVec 64} (h:s&&& ~~~63#64=0#64):zih s=some (W7 s,()):=by
 obtain ⟨t,rfl⟩:=zrz h
 have e:zkv (BitVec.ofNat 64 t.1)=some (W7 (BitVec.ofNat 64 t.1)):=by
  show zaZ 66 _=_
  rw [zpc 66 _ (by simp;omega),zsb t];rfl
 have:=zuI (BitVec.ofNat 64 t.1)
 rw [zpT,zpJ,Option.bind_some,e,Option.bind_some,znI _ _ (by simp;omega)]
 rfl
theorem znk (n:Nat) (hn:1≤n): ∀(f:Nat) (l:List Int),(vj n f l).length≤l.length
 | 0,l=>by simp [vj]
 | f+1,[]=>by simp [vj]
 | f+1,x::l=>by
  have:=znk n hn f ((x::l).drop n)
  simp only [vj,List.length_cons,List.length_drop] at this ⊢
  omega
theorem zg5 (n:Nat): ∀(f:Nat) (l c:List Int),c∈vj n f l→c.length≤l.length
 | 0,l,c,h=>by simp [vj] at h
 | f+1,[],c,h=>by simp [vj] at h
 | f+1,x::l,c,h=>by
  simp only [vj,List.mem_cons] at h
  rcases h with rfl | h
  ·rw [List.length_take];exact Nat.min_le_right _ _
  ·have:=zg5 n f _ c h
   simp only [List.length_drop] at this
   omega
def uW (p:zb) (w:Nat):ze:=⟨0,0,0,(w:Int)+1,0,[],⟨2,0,zF p ((w:Int)+1),p.Cap,0#64,0#64,0,0⟩,⟨0,0,0,0,0#64,0,0,0⟩,⟨0,0,0,0,⟨0,0,0,0,0#64,0#64,0,0⟩,⟨0,0,0,0,0#64,0,0,0⟩,0,0⟩⟩
def Z2 (p:zb) (k:Nat):List (BitVec 64):=(List.range k).flatMap fun _=>zda p.Cap
theorem zmF (c:Int):(zda c).length=c.toNat+2:=by unfold zda;rw [List.length_append,List.length_replicate];exact Nat.add_comm _ _
theorem zgV (p:zb) (k:Nat):Z2 p (k+1)=Z2 p k++zda p.Cap:=by unfold Z2;rw [List.range_succ,List.flatMap_append];simp
theorem Vm (p:zb): ∀k,(Z2 p k).length=k*(p.Cap.toNat+2)
 | 0=>by simp [Z2]
 | k+1=>by rw [zgV,List.length_append,Vm p k,zmF,Nat.succ_mul]
theorem zxl {p:zb} {s1:BitVec 64} {s5:Int} {s6:Int} {s7:Int} {s8:Int} {s9:Int} {s10:Int} {s11:Int} {s12:Int} {s13:Int} {s14:BitVec 64} {s15:Int} {s16:zn} {s17:Int} {s18:Int} {s19:Bool} {s20:Bool} {s21:Int} {s22:Int} {s23:Int} {s24:Int} {s25:zr} {s26:zb} {s27:Int} {s28:zn} {s29:Int} {s30:Int} {s31:Bool} {s32:Bool} {s33:Int} {s34:zq} {s35:zr} {s36:List (List Int)} {s37:List (List Int)} {s38:List (List zk)} {s39:List zm} {s40:List (List Int)} {s41:List (BitVec 64)} {s42:List (List Int)} {s43:List Int} {s44:List Int} {s45:List ze} {s46:List zc} {s47:List (List Int)} {s49:List (List Int)} {s50:List Int} {s52:List zc} (hp:zC p) :
  yh UI (s1,p.Workers,0,p,s5,s6,s7,s8,s9,s10,s11,s12,s13,s14,s15,s16,s17,s18,s19,s20,s21,s22,s23,s24,s25,s26,s27,s28,s29,s30,s31,s32,s33,s34,s35,s36,s37,s38,s39,s40,s41,s42,s43,s44,s45,s46,s47,[],s49,s50,[],s52,())=some (.brk (s1,p,s5,s6,s7,s8,s9,s10,s11,s12,s13,s14,s15,s16,s17,s18,s19,s20,s21,s22,s23,s24,s25,s26,s27,s28,s29,s30,s31,s32,s33,s34,s35,s36,s37,s38,s39,s40,s41,s42,s43,s44,s45,s46,s47,(Z2 p p.Workers.toNat),s49,s50,((List.range p.Workers.toNat).map (uW p)),s52,())):=by
 have hw:=hp.wk
 have hc:=hp.cap
 refine (uq (f:=UI) (fun a=>∃i:Nat,a=(s1,p.Workers,(i:Int),p,s5,s6,s7,s8,s9,s10,s11,s12,s13,s14,s15,s16,s17,s18,s19,s20,s21,s22,s23,s24,s25,s26,s27,s28,s29,s30,s31,s32,s33,s34,s35,s36,s37,s38,s39,s40,s41,s42,s43,s44,s45,s46,s47,(Z2 p i),s49,s50,((List.range i).map (uW p)),s52,())∧(i:Int)≤p.Workers) (fun a=>(p.Workers-a.2.2.1).toNat) (fun o=>o= .brk (s1,p,s5,s6,s7,s8,s9,s10,s11,s12,s13,s14,s15,s16,s17,s18,s19,s20,s21,s22,s23,s24,s25,s26,s27,s28,s29,s30,s31,s32,s33,s34,s35,s36,s37,s38,s39,s40,s41,s42,s43,s44,s45,s46,s47,(Z2 p p.Workers.toNat),s49,s50,((List.range p.Workers.toNat).map (uW p)),s52,())) ?_ (s1,p.Workers,0,p,s5,s6,s7,s8,s9,s10,s11,s12,s13,s14,s15,s16,s17,s18,s19,s20,s21,s22,s23,s24,s25,s26,s27,s28,s29,s30,s31,s32,s33,s34,s35,s36,s37,s38,s39,s40,s41,s42,s43,s44,s45,s46,s47,[],s49,s50,[],s52,()) ⟨0,rfl,by omega⟩ (vc (by dsimp only;omega))).elim fun o h=> ?_
 rotate_left
 ·rw [h.1,h.2]
 ·rintro _ ⟨i,rfl,hi⟩
  rw [zkW,zw]
  by_cases hlt:(i:Int)<p.Workers
  ·have hl:=Vm p i
   have hl2:=zmF p.Cap
   have hb:i*(p.Cap.toNat+2)≤3*5:=Nat.mul_le_mul (by omega) (by omega)
   rw [if_pos hlt,zsf hc.1 (by omega),Option.bind_some,vN (l:=Z2 p i++zda p.Cap) (by rw [List.length_append];omega),Option.bind_some,zal,Option.bind_some,W4,Option.bind_some,vN (by simp<;>omega),Option.bind_some,xy (by omega)]
   refine ⟨_,rfl,⟨i+1,?_,by omega⟩,?_⟩
   ·rw [zgV,List.range_succ,List.map_append];rfl
   ·show (p.Workers-((i+1:Nat):Int)).toNat<(p.Workers-(i:Int)).toNat
    omega
  ·rw [if_neg hlt]
   have:i=p.Workers.toNat:=by omega
   subst this
   exact ⟨_,rfl,rfl⟩
def xq (k:Nat):List Int:=(List.range k).map fun i:Nat=>(i:Int)+1
theorem zqj (k:Nat):(xq k).length=k:=by simp [xq]
theorem zwO {b:Int} {s1:BitVec 64} {s4:zb} {s5:Int} {s6:Int} {s7:Int} {s8:Int} {s9:Int} {s10:Int} {s11:Int} {s12:Int} {s13:Int} {s14:BitVec 64} {s15:Int} {s16:zn} {s17:Int} {s18:Int} {s19:Bool} {s20:Bool} {s21:Int} {s22:Int} {s23:Int} {s24:Int} {s25:zr} {s26:zb} {s27:Int} {s28:zn} {s29:Int} {s30:Int} {s31:Bool} {s32:Bool} {s33:Int} {s34:zq} {s35:zr} {s37:List (List Int)} {s38:List (List Int)} {s39:List (List zk)} {s40:List zm} {s41:List (List Int)} {s42:List (BitVec 64)} {s43:List (List Int)} {s44:List Int} {s45:List Int} {s46:List ze} {s47:List zc} {s48:List (List Int)} {s49:List (BitVec 64)} {s50:List (List Int)} {s51:List Int} {s52:List ze} {s53:List zc} (hb:0≤b∧b<1000) :
  yh VZ (s1,b,0,s4,s5,s6,s7,s8,s9,s10,s11,s12,s13,s14,s15,s16,s17,s18,s19,s20,s21,s22,s23,s24,s25,s26,s27,s28,s29,s30,s31,s32,s33,s34,s35,[],s37,s38,s39,s40,s41,s42,s43,s44,s45,s46,s47,s48,s49,s50,s51,s52,s53,())=some (.brk (s1,s4,s5,s6,s7,s8,s9,s10,s11,s12,s13,s14,s15,s16,s17,s18,s19,s20,s21,s22,s23,s24,s25,s26,s27,s28,s29,s30,s31,s32,s33,s34,s35,(xq b.toNat),s37,s38,s39,s40,s41,s42,s43,s44,s45,s46,s47,s48,s49,s50,s51,s52,s53,())):=by
 refine (uq (f:=VZ) (fun a=>∃i:Nat,a=(s1,b,(i:Int),s4,s5,s6,s7,s8,s9,s10,s11,s12,s13,s14,s15,s16,s17,s18,s19,s20,s21,s22,s23,s24,s25,s26,s27,s28,s29,s30,s31,s32,s33,s34,s35,(xq i),s37,s38,s39,s40,s41,s42,s43,s44,s45,s46,s47,s48,s49,s50,s51,s52,s53,())∧(i:Int)≤b) (fun a=>(b-a.2.2.1).toNat) (fun o=>o= .brk (s1,s4,s5,s6,s7,s8,s9,s10,s11,s12,s13,s14,s15,s16,s17,s18,s19,s20,s21,s22,s23,s24,s25,s26,s27,s28,s29,s30,s31,s32,s33,s34,s35,(xq b.toNat),s37,s38,s39,s40,s41,s42,s43,s44,s45,s46,s47,s48,s49,s50,s51,s52,s53,())) ?_ (s1,b,0,s4,s5,s6,s7,s8,s9,s10,s11,s12,s13,s14,s15,s16,s17,s18,s19,s20,s21,s22,s23,s24,s25,s26,s27,s28,s29,s30,s31,s32,s33,s34,s35,[],s37,s38,s39,s40,s41,s42,s43,s44,s45,s46,s47,s48,s49,s50,s51,s52,s53,()) ⟨0,rfl,by omega⟩ (vc (by dsimp only;omega))).elim fun o h=> ?_
 rotate_left
 ·rw [h.1,h.2]
 ·rintro _ ⟨i,rfl,hi⟩
  rw [zkd,zw]
  by_cases hlt:(i:Int)<b
  ·have:=zqj i
   rw [if_pos hlt,vN (by rw [List.length_append];simp;omega),Option.bind_some,xy (by omega)]
   refine ⟨_,rfl,⟨i+1,?_,by omega⟩,?_⟩
   ·unfold xq;rw [List.range_succ,List.map_append];rfl
   ·show (b-((i+1:Nat):Int)).toNat<(b-(i:Int)).toNat
    omega
  ·rw [if_neg hlt]
   have:i=b.toNat:=by omega
   subst this
   exact ⟨_,rfl,rfl⟩
theorem zsL {s1:zb} {s2:Int} {s3:Int} {s4:Int} {s5:Int} {s6:Int} {s7:Int} {s8:Int} {s9:Int} {s10:Int} {s11:BitVec 64} {s12:Int} {s13:zn} {s14:Int} {s15:Int} {s16:Bool} {s17:Bool} {s18:Int} {s19:Int} {s20:Int} {s21:Int} {s22:zr} {s23:zb} {s24:Int} {s25:zn} {s26:Int} {s27:Int} {s28:Bool} {s29:Bool} {s30:Int} {s31:zq} {s32:zr} {s33:List Int} {s34:List (List Int)} {s35:List (List Int)} {s36:List (List zk)} {s37:List zm} {s38:List (List Int)} {s39:List (BitVec 64)} {s40:List (List Int)} {s41:List Int} {s42:List Int} {s43:List ze} {s44:List zc} {s45:List (List Int)} {s46:List (BitVec 64)} {s48:List Int} {s49:List ze} {s50:List zc}: ∀(ys acc:List (List Int)),acc.length+ys.length<1000000→(∀c∈ys,c.length<1000000)→Z8 zbv ys (s1,s2,s3,s4,s5,s6,s7,s8,s9,s10,s11,s12,s13,s14,s15,s16,s17,s18,s19,s20,s21,s22,s23,s24,s25,s26,s27,s28,s29,s30,s31,s32,s33,s34,s35,s36,s37,s38,s39,s40,s41,s42,s43,s44,s45,s46,acc,s48,s49,s50,())=some (s1,s2,s3,s4,s5,s6,s7,s8,s9,s10,s11,s12,s13,s14,s15,s16,s17,s18,s19,s20,s21,s22,s23,s24,s25,s26,s27,s28,s29,s30,s31,s32,s33,s34,s35,s36,s37,s38,s39,s40,s41,s42,s43,s44,s45,s46,(acc++ys),s48,s49,s50,())
 | [],acc,_,_=>by simp [Z8]
 | y::ys,acc,h,hc=>by
  simp only [List.length_cons] at h
  have hy:=hc y (List.mem_cons_self ..)
  rw [Z8,zjO,zig (by omega),Option.bind_some,vN (by simp<;>omega),Option.bind_some,Option.bind_some,zsL ys _ (by simp<;>omega) (fun c h'=>hc c (List.mem_cons_of_mem _ h'))]
  simp
def ut (r:List Int):zc:=⟨0,0,0,0,0,0,0,0,r,[],[],⟨0,0,0,0,0#64,0,0,0⟩,⟨0,0,0,0,⟨0,0,0,0,0#64,0#64,0,0⟩,⟨0,0,0,0,0#64,0,0,0⟩,0,0⟩⟩
theorem zwD {p:zb} {s4:Int} {s5:Int} {s6:Int} {s7:Int} {s8:Int} {s9:Int} {s10:Int} {s11:Int} {s12:Int} {s13:BitVec 64} {s14:Int} {s15:zn} {s16:Int} {s17:Int} {s18:Bool} {s19:Bool} {s20:Int} {s21:Int} {s22:Int} {s23:Int} {s24:zr} {s25:zb} {s26:Int} {s27:List (BitVec 64)} {s28:zn} {s29:Int} {s30:Int} {s31:Bool} {s32:Bool} {s33:Int} {s34:zq} {s35:zr} {s36:List (List Int)} {s37:List (List Int)} {s38:List (List zk)} {s39:List zm} {s40:List (List Int)} {s41:List (BitVec 64)} {s42:List (List Int)} {s43:List Int} {s44:List Int} {s45:List ze} {s46:List zc} {s47:List (List Int)} {s48:List (List Int)} {s49:List Int} {s50:List ze} (hl:p.Regs.length<1000000) (hr: ∀r∈p.Regs,r.length<1000000) :
  yh V2 (p.Regs,(p.Regs.length:Int),0,s4,s5,s6,s7,s8,s9,s10,s11,s12,s13,s14,s15,s16,s17,s18,s19,s20,s21,s22,s23,s24,s25,s26,s27,s28,s29,s30,s31,s32,s33,s34,s35,s36,s37,s38,s39,s40,s41,s42,s43,s44,s45,s46,s47,s48,s49,s50,[],())=some (.brk (s4,s5,s6,s7,s8,s9,s10,s11,s12,s13,s14,s15,s16,s17,s18,s19,s20,s21,s22,s23,s24,s25,s26,s27,s28,s29,s30,s31,s32,s33,s34,s35,s36,s37,s38,s39,s40,s41,s42,s43,s44,s45,s46,s47,s48,s49,s50,(p.Regs.map ut),())):=by
 refine (uq (f:=V2) (fun a=>∃i:Nat,a=(p.Regs,(p.Regs.length:Int),(i:Int),s4,s5,s6,s7,s8,s9,s10,s11,s12,s13,s14,s15,s16,s17,s18,s19,s20,s21,s22,s23,s24,s25,s26,s27,s28,s29,s30,s31,s32,s33,s34,s35,s36,s37,s38,s39,s40,s41,s42,s43,s44,s45,s46,s47,s48,s49,s50,((p.Regs.take i).map ut),())∧i≤p.Regs.length) (fun a=>p.Regs.length-a.2.2.1.toNat) (fun o=>o= .brk (s4,s5,s6,s7,s8,s9,s10,s11,s12,s13,s14,s15,s16,s17,s18,s19,s20,s21,s22,s23,s24,s25,s26,s27,s28,s29,s30,s31,s32,s33,s34,s35,s36,s37,s38,s39,s40,s41,s42,s43,s44,s45,s46,s47,s48,s49,s50,(p.Regs.map ut),())) ?_ (p.Regs,(p.Regs.length:Int),0,s4,s5,s6,s7,s8,s9,s10,s11,s12,s13,s14,s15,s16,s17,s18,s19,s20,s21,s22,s23,s24,s25,s26,s27,s28,s29,s30,s31,s32,s33,s34,s35,s36,s37,s38,s39,s40,s41,s42,s43,s44,s45,s46,s47,s48,s49,s50,[],()) ⟨0,rfl,by omega⟩ (vc (by dsimp only;omega))).elim fun o h=> ?_
 rotate_left
 ·rw [h.1,h.2]
 ·rintro _ ⟨i,rfl,hi⟩
  rw [zjR,zw]
  rcases Nat.lt_or_ge i p.Regs.length with hlt | hge
  ·have hx:=List.getElem?_eq_getElem hlt
   have hh:=hr _ (List.getElem_mem hlt)
   rw [if_pos (by omega),w9 hx,Option.bind_some,zig (by omega),Option.bind_some,vN (by simp<;>omega),Option.bind_some,xy (by omega)]
   refine ⟨_,rfl,⟨i+1,?_,hlt⟩,?_⟩
   ·rw [List.take_add_one,hx,List.map_append];rfl
   ·show p.Regs.length-((i+1:Nat):Int).toNat<p.Regs.length-(i:Int).toNat
    omega
  ·rw [if_neg (by omega)]
   have:i=p.Regs.length:=by omega
   subst this
   exact ⟨_,rfl,by rw [List.take_length]⟩
def zQ (p:zb):Nat:=(p.Most+p.Workers+p.Mutators).toNat
def yY (p:zb):List (List Int):=vj p.Bin.toNat (W7 (Yh p)).length (W7 (Yh p))
def wi (p:zb):za :=
 {P:=p,H:=p.H,
  M:=zaC (zaC (Z2 p p.Workers.toNat++List.replicate (2+zQ p) 0#64) (zU p) (zD p) ((xq (zQ p)).take (yY p).length)) (zD p) (zD p) ((xq (zQ p)).drop (yY p).length),
  Bins:=[[]]++yY p++List.replicate (zQ p-(yY p).length) [],
  T:=⟨Yh p,0#64⟩,Work:=cnt (Yh p),Epoch:=0,Flag:=false,Done:=false,Restarts:=0,
  Acks:=List.replicate p.Mutators.toNat 0,L:=⟨0,0,0,List.replicate p.Mutators.toNat 0⟩,
  Ws:=(List.range p.Workers.toNat).map (uW p),Ms:=p.Regs.map ut,D:=⟨0,0⟩}
theorem zuM {r n:Int} (h:0≤r) (h2:r≤n) (h3:n≤6):bit r&&& ~~~WO n=0#64:=by
 have:=zo8 ⟨r.toNat,by omega⟩ ⟨n.toNat,by omega⟩ (by show r.toNat≤n.toNat;omega)
 simpa [Int.toNat_of_nonneg h,Int.toNat_of_nonneg (show 0≤n by omega)] using this
theorem zq2 {a b c:BitVec 64} (ha:a&&& ~~~c=0#64) (hb:b&&& ~~~c=0#64):(a|||b)&&& ~~~c=0#64:=by
 apply BitVec.eq_of_getLsbD_eq
 intro i hi
 have h1:=congrArg (fun x=>x.getLsbD i) ha
 have h2:=congrArg (fun x=>x.getLsbD i) hb
 simp only [BitVec.getLsbD_and,BitVec.getLsbD_or,BitVec.getLsbD_not,BitVec.getLsbD_zero,hi,decide_true,Bool.true_and] at h1 h2 ⊢
 revert h1 h2
 generalize a.getLsbD i=x
 generalize b.getLsbD i=y
 generalize c.getLsbD i=z
 cases x<;>cases y<;>cases z<;>decide
theorem zsV {c:BitVec 64} {l:List Int} (h: ∀o∈l,bit o&&& ~~~c=0#64): ∀(z:BitVec 64),z&&& ~~~c=0#64→l.foldl (fun s o=>s|||bit o) z&&& ~~~c=0#64:=by
 induction l with
 | nil=>intro z hz;exact hz
 | cons a l ih=>intro z hz;exact ih (fun o ho=>h o (List.mem_cons_of_mem _ ho)) _ (zq2 hz (h a (List.mem_cons_self ..)))
theorem zhp {p:zb} (h:zC p):Yh p&&& ~~~WO (p.H.Objs.length:Int)=0#64:=by
 have hn:=h.n
 have key: ∀(L:List (List Int)) (z:BitVec 64),(∀r∈L,∀v∈r,0≤v∧v≤(p.H.Objs.length:Int))→z&&& ~~~WO (p.H.Objs.length:Int)=0#64→L.foldl (fun s l=>s|||znN l) z&&& ~~~WO (p.H.Objs.length:Int)=0#64:=by
  intro L
  induction L with
  | nil=>intro z _ hz;exact hz
  | cons r L ih =>
   intro z hr hz
   refine ih _ (fun r' h'=>hr r' (List.mem_cons_of_mem _ h')) (zq2 hz (zsV (fun o ho=> ?_) _ (by simp)))
   have:=hr r (List.mem_cons_self ..) o ho
   exact zuM this.1 this.2 hn.2
 exact key _ _ (fun r hr=>(h.reg r hr).2) (zls h)
theorem zsh {a b c:BitVec 64} (h:a&&& ~~~b=0#64) (h2:b&&& ~~~c=0#64):a&&& ~~~c=0#64:=by
 apply BitVec.eq_of_getLsbD_eq
 intro i hi
 have h1:=congrArg (fun x=>x.getLsbD i) h
 have h2:=congrArg (fun x=>x.getLsbD i) h2
 simp only [BitVec.getLsbD_and,BitVec.getLsbD_not,BitVec.getLsbD_zero,hi,decide_true,Bool.true_and] at h1 h2 ⊢
 revert h1 h2
 generalize a.getLsbD i=x
 generalize b.getLsbD i=y
 generalize c.getLsbD i=z
 cases x<;>cases y<;>cases z<;>decide
theorem zr7: ∀n:Fin 7,WO (n.1:Int)&&& ~~~63#64=0#64:=by decide
theorem zhm {p:zb} (h:zC p):Yh p&&& ~~~63#64=0#64:=by
 have hn:=h.n
 refine zsh (zhp h) ?_
 exact zr7 ⟨p.H.Objs.length,by omega⟩
theorem ztr: ∀(n:Fin 7) (t:Fin 64),BitVec.ofNat 64 t.1&&& ~~~WO (n.1:Int)=0#64→(W7 (BitVec.ofNat 64 t.1)).length≤n.1:=by decide +kernel
theorem zjW {p:zb} (h:zC p):(W7 (Yh p)).length≤p.H.Objs.length:=by
 have hn:=h.n
 obtain ⟨t,ht⟩:=zrz (zhm h)
 have h2:=zhp h
 rw [ht] at h2 ⊢
 exact ztr ⟨p.H.Objs.length,by omega⟩ t h2
theorem ziY {p:zb} (h:zC p):(yY p).length≤p.H.Objs.length:=by
 have hb:=h.bin
 exact Nat.le_trans (znk _ (by omega) _ _) (zjW h)
theorem zpn {p:zb} (h:zC p):zc8 p=some (wi p,()):=by
 have hw:=h.wk
 have hc:=h.cap
 have hm:=h.mt
 have hb:=h.bin
 have hn:=h.n
 have hmo:=h.most
 have hrl:=h.regs
 have hreg: ∀r∈p.Regs,r.length<1000000:=fun r hr=>by have:=(h.reg r hr).1;omega
 have hobj: ∀o∈p.H.Objs,o.length<1000000:=fun o ho=>by have:=(h.objs o ho).1;have:=h.slots;omega
 have hfl:=ziY h
 have hgl:=zjW h
 have hcl:=Vm p p.Workers.toNat
 have hcb:p.Workers.toNat*(p.Cap.toNat+2)≤3*5:=Nat.mul_le_mul (by omega) (by omega)
 have hbn:(zQ p:Int)=p.Most+p.Workers+p.Mutators:=by unfold zQ;omega
 have eb:zc6 p=some ((zQ p:Int),()):=by
  rw [zoC,yW (a:=p.Most+p.Workers) (by omega) (by omega),yW (by omega) (by omega),hbn]
 have hul:=zqj (zQ p)
 have ec:Vs (W7 (Yh p)) p.Bin=some (yY p):=by
  show zfE _ _=_
  unfold zfE yY
  have c1:(decide (1≤p.Bin)&&decide (p.Bin<1000000)&&decide (((W7 (Yh p)).length:Int)<1000000))=true:=by simp<;>omega
  rw [c1];rfl
 have cut1:cut (xq (zQ p)) 0 ((yY p).length:Int)=some ((xq (zQ p)).take (yY p).length):=by
  unfold cut
  have:((yY p).length:Int)≤((xq (zQ p)).length:Int):=by omega
  simp [this]
 have cut2:cut (xq (zQ p)) ((yY p).length:Int) ((xq (zQ p)).length:Int)=some ((xq (zQ p)).drop (yY p).length):=by
  unfold cut
  have:((yY p).length:Int)≤((xq (zQ p)).length:Int):=by omega
  simp [this]
 rw [zob,zsT h]
 simp only [Option.bind_some,Bool.not_true,cond_false]
 rw [ztP (by omega) hreg]
 simp only [Option.bind_some,zu1,zsS hm.1 (show p.Mutators≤16 by omega)]
 rw [zu0 (by omega) hobj]
 simp only [Option.bind_some]
 rw [zxl h]
 simp only [Option.bind_some,eb]
 have e3:(2+(zQ p:Int)).toNat=2+zQ p:=by omega
 rw [yW (a:=2+(zQ p:Int)) (by omega) (by omega),zoZ (by omega) (by omega),e3,Option.bind_some,vN (l:=Z2 p p.Workers.toNat++List.replicate (2+zQ p) 0#64) (by simp<;>omega),Option.bind_some,zwO (by omega)]
 dsimp only [Option.bind_some]
 rw [Int.toNat_natCast,zvW (zhm h),Option.bind_some,zdF,zw,if_neg (by omega),Option.bind_some,ec,Option.bind_some,zsL _ _ (by simp<;>omega) (fun c hc'=>by have:=zg5 _ _ _ _ hc';omega)]
 dsimp only [Option.bind_some]
 have e1:w64 ((([[]]++yY p:List (List Int)).length:Int)-1)=((yY p).length:Int):=by
  rw [yW (by simp<;>omega) (by simp<;>omega)];simp
 have e2:w64 (((xq (zQ p)).length:Int)-((yY p).length:Int))=((zQ p-(yY p).length:Nat):Int):=by
  rw [yW (by omega) (by omega)];omega
 rw [e1,e2,zoZ (by omega) (by omega),Int.toNat_natCast,Option.bind_some,vN (by simp<;>omega),Option.bind_some,zbR,Option.bind_some,UO,Option.bind_some,cut1,Option.bind_some,zpf (by simp<;>omega) (by simp<;>omega),Option.bind_some,zcX,Option.bind_some,Option.bind_some,cut2,Option.bind_some,zpf (by rw [zmi];simp<;>omega) (by simp<;>omega),Option.bind_some,decide_true,cond_true,ze8 hm.1 (show p.Mutators<4294967296 by omega),Option.bind_some,zwD (by omega) hreg]
 rfl
end
end Go.Pe.G
namespace Go.Pe.G
open Go.Pe
noncomputable section
theorem zgx (h:BitVec 64):yo h=((h.toNat%4294967296:Nat):Int):=by
 unfold yo
 have e:(h&&&4294967295#64).toNat=h.toNat%4294967296:=by
  rw [BitVec.toNat_and]
  exact Nat.and_two_pow_sub_one_eq_mod h.toNat 32
 rw [BitVec.toInt_eq_toNat_cond,e]
 omega
theorem zgE (h:BitVec 64):0≤yo h∧yo h<4294967296:=by rw [zgx];omega
theorem za8 (v:BitVec 64) {n:Int} (h:0≤n) (h2:n<4294967296):yo (yX v n)=n:=by
 rw [zgx]
 unfold yX
 rw [BitVec.toNat_or,BitVec.toNat_and,BitVec.toNat_shiftLeft]
 have e1:(v.toNat <<< 32%2 ^ 64|||(BitVec.ofInt 64 n).toNat&&&(4294967295#64).toNat)%2 ^ 32=(v.toNat <<< 32%2 ^ 64)%2 ^ 32|||((BitVec.ofInt 64 n).toNat&&&(4294967295#64).toNat)%2 ^ 32:=Nat.or_mod_two_pow
 have e2:v.toNat <<< 32%2 ^ 64%2 ^ 32=0:=by rw [Nat.shiftLeft_eq];omega
 have e3:(BitVec.ofInt 64 n).toNat&&&(4294967295#64).toNat=n.toNat:=by
  have:(BitVec.ofInt 64 n).toNat=n.toNat:=by rw [BitVec.toNat_ofInt];omega
  rw [this]
  exact (Nat.and_two_pow_sub_one_eq_mod n.toNat 32).trans (Nat.mod_eq_of_lt (by omega))
 rw [show (4294967296:Nat)=2 ^ 32 from rfl,e1,e2,e3,Nat.zero_or,Nat.mod_eq_of_lt (by omega)]
 omega
theorem toInt_ofInt {n:Int} (h:0≤n) (h2:n<4294967296):(BitVec.ofInt 64 n).toInt=n:=by
 have e:(BitVec.ofInt 64 n).toNat=n.toNat:=by rw [BitVec.toNat_ofInt];omega
 rw [BitVec.toInt_eq_toNat_cond,e]
 omega
theorem YI {m:List (BitVec 64)} {a b:Int} {v:BitVec 64}:ld (st m a v) b=if a=b∧0≤a∧a<m.length then v else ld m b:=by
 unfold ld st
 by_cases hb:0≤b
 ·rw [if_pos hb,if_pos hb]
  by_cases ha:0≤a
  ·rw [if_pos ha,List.getD_eq_getElem?_getD,List.getD_eq_getElem?_getD,List.getElem?_set]
   by_cases hab:a.toNat=b.toNat
   ·have e:a=b:=by omega
    subst e
    by_cases hl:a.toNat<m.length
    ·rw [if_pos rfl,if_pos hl,if_pos ⟨rfl,ha,by omega⟩];rfl
    ·rw [if_pos rfl,if_neg hl,if_neg (by omega),List.getElem?_eq_none (by omega)]
   ·rw [if_neg hab,if_neg (by omega)]
  ·rw [if_neg ha,if_neg (by omega)]
 ·rw [if_neg hb,if_neg hb,if_neg (by omega)]
theorem yg {m:List (BitVec 64)} {a b:Int} {v:BitVec 64} (h:a≠b):ld (st m a v) b=ld m b:=by
 rw [YI,if_neg (fun h'=>h h'.1)]
theorem vT {p:zb} (h:zC p):zU p=p.Workers*(p.Cap+2)∧3≤zU p∧zU p≤15:=by
 have hw:=h.wk
 have hc:=h.cap
 unfold zU
 rw [xm (a:=p.Cap+2) (by omega) (by omega)]
 have hx:p.Workers=1∨p.Workers=2∨p.Workers=3:=by omega
 rcases hx with hx | hx | hx<;>rw [hx,xm (by omega) (by omega)]<;>omega
theorem xx {p:zb} (h:zC p):zD p=zU p+1:=by
 have:=vT h
 unfold zD
 rw [xm (by omega) (by omega)]
theorem uV {p:zb} (h:zC p) {w:Int} (h1:1≤w) (h2:w≤p.Workers):zF p w=(w-1)*(p.Cap+2)∧0≤zF p w∧zF p w+p.Cap+2≤zU p:=by
 have hw:=h.wk
 have hc:=h.cap
 have hf:=(vT h).1
 unfold zF
 rw [xm (a:=p.Cap+2) (by omega) (by omega),xm (a:=w-1) (by omega) (by omega)]
 have hx:p.Workers=1∨p.Workers=2∨p.Workers=3:=by omega
 have hy:w=1∨w=2∨w=3:=by omega
 rw [hf]
 rcases hx with hx | hx | hx<;>rcases hy with hy | hy | hy<;>first | omega | (rw [hx,hy,xm (by omega) (by omega)]<;>omega)
theorem zmd {p:zb} (h:zC p) {d:zg} {w:Int} (h1:1≤w) (h2:w≤p.Workers) (hb:d.Base=zF p w) (hc:d.Cap=p.Cap) (i:BitVec 64) :
  Xd d i=d.Base+2+((i.toNat%p.Cap.toNat:Nat):Int)∧d.Base+2≤Xd d i∧Xd d i<d.Base+2+p.Cap:=by
 have hcp:=h.cap
 have hd:=uV h h1 h2
 have hf:=vT h
 have hs:(uN d).toNat=p.Cap.toNat:=by
  unfold uN
  rw [hc,if_neg (by omega),BitVec.toNat_ofInt]
  omega
 have hlt:i.toNat%p.Cap.toNat<p.Cap.toNat:=Nat.mod_lt _ (by omega)
 have hm:(i%uN d).toInt=((i.toNat%p.Cap.toNat:Nat):Int):=by
  rw [BitVec.toInt_eq_toNat_cond,BitVec.toNat_umod,hs]
  omega
 unfold Xd
 rw [hm,xm (a:=d.Base+2) (by omega) (by omega),xm (by omega) (by omega)]
 omega
structure SOk (p:zb) (nb:Nat) (s:za):Prop where
 P:s.P=p
 bins:s.Bins.length=nb
 nbk:1≤nb∧nb<1000
 mem:s.M.length<100000
 cF:yo (ld s.M (zU p))<nb
 cE:yo (ld s.M (zD p))<nb
 cL: ∀a,zD p<a→0≤(ld s.M a).toInt∧(ld s.M a).toInt<nb
structure MOk (p:zb) (nb:Nat) (g:zA):Prop where
 who:g.Mode=1→1≤g.Who∧g.Who≤p.Workers
 d3:g.PC=3→g.D.Kind=1∧g.D.Base=zF p g.Who∧g.D.Cap=p.Cap∧g.Mode=1
 c5:g.PC=5→g.C.Kind=2∧g.C.Head=zD p∧g.C.Next=zD p∧(1≤g.C.PC→1≤yo g.C.H∧yo g.C.H<nb)∧(2≤g.C.PC→0≤g.C.Y∧g.C.Y<nb)
 b6:g.PC=6→1≤g.Bin∧g.Bin<nb
 c7:g.PC=7→g.C.Kind=1∧g.C.Head=zU p∧g.C.Next=zD p∧(1≤g.C.X∧g.C.X<nb)∧(1≤g.C.PC→yo g.C.H<nb)
theorem SOk.gok {p:zb} {nb:Nat} {s:za} {g:zA} (h:zC p) (S:SOk p nb s) (M:MOk p nb g):GOk s g:=by
 have hc:=h.cap
 refine ⟨by have:=S.mem;omega,by have:=S.bins;have:=S.nbk;omega,fun h6=> ?_,fun h3=> ?_⟩
 ·have:=M.b6 h6;have:=S.bins;omega
 ·obtain ⟨a,b,c,_⟩:=M.d3 h3;exact ⟨a,by omega⟩
theorem SOk.low {p:zb} {nb:Nat} {s:za} (h:zC p) (S:SOk p nb s) {a:Int} (ha:a<zU p) (v:BitVec 64):SOk p nb {s with M:=st s.M a v}:=by
 have he:=xx h
 exact ⟨S.P,S.bins,S.nbk,by simp only [Zu];exact S.mem,by simp only [yg (show a≠zU p by omega)];exact S.cF,by simp only [yg (show a≠zD p by omega)];exact S.cE,fun b hb=>by
  simp only [yg (show a≠b by omega)];exact S.cL b hb⟩
theorem SOk.link {p:zb} {nb:Nat} {s:za} (h:zC p) (S:SOk p nb s) {a:Int} (ha:zD p<a) {v:BitVec 64} (hv:0≤v.toInt∧v.toInt<nb):SOk p nb {s with M:=st s.M a v}:=by
 have he:=xx h
 exact ⟨S.P,S.bins,S.nbk,by simp only [Zu];exact S.mem,by simp only [yg (show a≠zU p by omega)];exact S.cF,by simp only [yg (show a≠zD p by omega)];exact S.cE,fun b hb=>by
  simp only [YI]
  split
  ·exact hv
  ·exact S.cL b hb⟩
theorem SOk.head {p:zb} {nb:Nat} {s:za} (h:zC p) (S:SOk p nb s) {a:Int} (ha:a=zU p∨a=zD p) {v:BitVec 64} (hv:yo v<nb):SOk p nb {s with M:=st s.M a v}:=by
 have he:=xx h
 refine ⟨S.P,S.bins,S.nbk,by simp only [Zu];exact S.mem,?_,?_,fun b hb=> ?_⟩
 ·simp only [YI]
  split
  ·exact hv
  ·exact S.cF
 ·simp only [YI]
  split
  ·exact hv
  ·exact S.cE
 ·simp only [yg (show a≠b by omega)];exact S.cL b hb
theorem SOk.swap {p:zb} {nb:Nat} {s:za} (h:zC p) (S:SOk p nb s) {a:Int} (ha:a=zU p∨a=zD p) (x:BitVec 64) {v:BitVec 64} (hv:yo v<nb):SOk p nb {s with M:=(sw s.M a x v).1}:=by
 unfold sw
 split
 ·exact S.head h ha hv
 ·exact S
theorem zjs {p:zb} {nb:Nat} {s:za} (h:zC p) (S:SOk p nb s) {c:zx} {hd:Int} (hdd:hd=zU p∨hd=zD p) (hk:c.Kind=2) (hh:c.Head=hd) (hn:c.Next=zD p)
  (h1:1≤c.PC→1≤yo c.H∧yo c.H<nb) (h2:2≤c.PC→0≤c.Y∧c.Y<nb) (ho:c.Out≠1) :
  SOk p nb {s with M:=(zj s.M c).1}∧(zj s.M c).2.Kind=2∧(zj s.M c).2.Head=hd∧(zj s.M c).2.Next=zD p ∧
  ((zj s.M c).2.Out≠1→(zj s.M c).2.Out≠2→(1≤(zj s.M c).2.PC→1≤yo (zj s.M c).2.H∧yo (zj s.M c).2.H<nb)∧(2≤(zj s.M c).2.PC→0≤(zj s.M c).2.Y∧(zj s.M c).2.Y<nb)) ∧
  ((zj s.M c).2.Out=1→1≤(zj s.M c).2.X∧(zj s.M c).2.X<nb):=by
 have hnb:=S.nbk
 have hE:=xx h
 have hF:=vT h
 unfold zj
 split
 ·exact ⟨S,hk,hh,hn,fun _ _=>⟨h1,h2⟩,fun e=>absurd e ho⟩
 ·split
  ·rw [hh]
   have n1:=zgE (ld s.M hd)
   have n2:yo (ld s.M hd)<nb:=by
    rcases hdd with e | e<;>rw [e]
    ·exact S.cF
    ·exact S.cE
   split
   ·exact ⟨S,hk,rfl,hn,fun _ h=>absurd rfl h,fun e=>by cases e⟩
   ·rename_i hne
    refine ⟨S,hk,rfl,hn,fun _ _=>⟨fun _=>⟨?_,n2⟩,fun e=>absurd e (by dsimp only;omega)⟩,fun e=>absurd e ho⟩
    have:yo (ld s.M hd)≠0:=fun e=>hne ⟨hk,e⟩
    dsimp only
    omega
  ·split
   ·try rw [if_pos hk]
    have hpc:1≤c.PC:=by omega
    have n1:=h1 hpc
    refine ⟨S,hk,hh,hn,fun _ _=>⟨fun _=>n1,fun _=> ?_⟩,fun e=>absurd e ho⟩
    dsimp only
    rw [hn,xm (by omega) (by omega)]
    exact S.cL _ (by omega)
   ·rename_i g1 g2 g3
    have hpc:c.PC=2:=by omega
    have n1:=h1 (by omega)
    have n2:=h2 (by omega)
    simp only [if_pos hk]
    refine ⟨S.swap h (by rw [hh];exact hdd) _ (by rw [za8 _ n2.1 (by omega)];exact n2.2),?_⟩
    split
    ·exact ⟨hk,hh,hn,fun e=>absurd rfl e,fun _=>n1⟩
    ·exact ⟨hk,hh,hn,fun _ _=>⟨fun e=>absurd e (by dsimp only;omega),fun e=>absurd e (by dsimp only;omega)⟩,fun e=>absurd e ho⟩
theorem zok {p:zb} {nb:Nat} {s:za} (h:zC p) (S:SOk p nb s) {c:zx} {hd:Int} (hdd:hd=zU p∨hd=zD p) (hk:c.Kind=1) (hh:c.Head=hd) (hn:c.Next=zD p) (hx:1≤c.X∧c.X<nb)
  (h1:1≤c.PC→yo c.H<nb) :
  SOk p nb {s with M:=(zj s.M c).1}∧(zj s.M c).2.Kind=1∧(zj s.M c).2.Head=hd∧(zj s.M c).2.Next=zD p∧(1≤(zj s.M c).2.X∧(zj s.M c).2.X<nb) ∧
  (1≤(zj s.M c).2.PC→yo (zj s.M c).2.H<nb):=by
 have hnb:=S.nbk
 have hE:=xx h
 have hF:=vT h
 have hk2: ¬c.Kind=2:=by omega
 unfold zj
 split
 ·exact ⟨S,hk,hh,hn,hx,h1⟩
 ·split
  ·rw [if_neg (fun e=>hk2 e.1),hh]
   exact ⟨S,hk,rfl,hn,hx,fun _=>hdd.elim (fun e=>by dsimp only;rw [e];exact S.cF) (fun e=>by dsimp only;rw [e];exact S.cE)⟩
  ·split
   ·try rw [if_neg hk2]
    have hpc:1≤c.PC:=by omega
    have n1:=h1 hpc
    have n2:=zgE c.H
    refine ⟨?_,hk,hh,hn,hx,fun _=>n1⟩
    dsimp only
    rw [hn,xm (by omega) (by omega)]
    exact S.link h (by omega) (by rw [toInt_ofInt (by omega) (by omega)];omega)
   ·have n1:=h1 (by omega)
    simp only [if_neg hk2]
    refine ⟨S.swap h (by rw [hh];exact hdd) _ (by rw [za8 _ (by omega) (by omega)];exact hx.2),?_⟩
    split
    ·exact ⟨hk,hh,hn,hx,fun _=>n1⟩
    ·exact ⟨hk,hh,hn,hx,fun _=>n1⟩
theorem MOk.ask {p:zb} {nb:Nat} {g:zA} (hw:g.Mode=1→1≤g.Who∧g.Who≤p.Workers):MOk p nb (zfB p g) :=
 ⟨hw,fun e=>(by cases e),fun _=>⟨rfl,rfl,rfl,fun e=>absurd e (show ¬(1:Int)≤0 by decide),fun e=>absurd e (show ¬(2:Int)≤0 by decide)⟩,fun e=>(by cases e),fun e=>(by cases e)⟩
theorem zkG {p:zb} {nb:Nat} {s:za} {g:zA} (h:zC p) (S:SOk p nb s) (M:MOk p nb g) (hout:g.PC=5→g.C.Out≠1):SOk p nb (zp s g).1∧MOk p nb (zp s g).2∧((zp s g).2.PC=5→(zp s g).2.C.Out≠1):=by
 have hP:=S.P
 unfold zp
 split
 ·exact ⟨S,M,hout⟩
 split
 ·rename_i h7
  obtain ⟨a1,a2,a3,a4,a5⟩:=M.c7 h7
  obtain ⟨b1,b2,b3,b4,b5,b6⟩:=zok h S (.inl rfl) a1 a2 a3 a4 a5
  unfold zaG
  refine ⟨b1,?_,?_⟩
  ·dsimp only
   split<;>exact ⟨M.who,fun e=>(by dsimp only at e;omega),fun e=>(by dsimp only at e;omega),fun e=>(by dsimp only at e;omega),fun _=>⟨b2,b3,b4,b5,b6⟩⟩
  ·dsimp only
   split<;>exact fun e=>by dsimp only at e;omega
 split
 ·rename_i h6
  obtain ⟨a1,a2⟩:=M.b6 h6
  unfold znK
  refine ⟨⟨hP,by simp only [List.length_set];exact S.bins,S.nbk,S.mem,S.cF,S.cE,S.cL⟩,⟨M.who,fun e=>(by cases e),fun e=>(by cases e),fun e=>(by cases e),fun _=>⟨rfl,by rw [hP],by rw [hP],⟨a1,a2⟩,fun e=>absurd e (show ¬(1:Int)≤0 by decide)⟩⟩,fun e=>by cases e⟩
 split
 ·rename_i h5
  obtain ⟨a1,a2,a3,a4,a5⟩:=M.c5 h5
  obtain ⟨b1,b2,b3,b4,b5,b6⟩:=zjs h S (.inr rfl) a1 a2 a3 a4 a5 (hout h5)
  unfold zgl
  refine ⟨b1,?_,?_⟩
  ·dsimp only
   split
   ·rename_i e1
    exact ⟨M.who,fun e=>(by cases e),fun e=>(by cases e),fun _=>b6 e1,fun e=>(by cases e)⟩
   ·split
    ·rw [hP];exact MOk.ask M.who
    ·rename_i e1 e2
     exact ⟨M.who,fun e=>(by dsimp only at e;omega),fun _=>⟨b2,b3,b4,b5 e1 e2⟩,fun e=>(by dsimp only at e;omega),fun e=>(by dsimp only at e;omega)⟩
  ·dsimp only
   split
   ·exact fun e=>by cases e
   ·split
    ·exact fun _ e=>by cases e
    ·rename_i e1 e2;exact fun _=>e1
 split
 ·rw [hP]
  exact ⟨⟨rfl,S.bins,S.nbk,S.mem,S.cF,S.cE,S.cL⟩,MOk.ask M.who,fun _ e=>by cases e⟩
 split
 ·rename_i h3
  obtain ⟨a1,a2,a3,a4⟩:=M.d3 h3
  have hw:=M.who a4
  obtain ⟨d1,d2,d3⟩:=uV h hw.1 hw.2
  have hc:=h.cap
  have hf:=vT h
  have hs:SOk p nb {s with M:=(yL s.M g.D).1}:=by
   unfold yL
   split
   ·exact S
   split
   ·exact S
   split
   ·exact S
   split
   ·have:=zmd h hw.1 hw.2 a2 a3 g.D.B
    exact S.low h (by omega) _
   ·dsimp only
    rw [xm (by omega) (by omega)]
    exact S.low h (by omega) _
  have hd:(yL s.M g.D).2.Kind=1∧(yL s.M g.D).2.Base=zF p g.Who∧(yL s.M g.D).2.Cap=p.Cap:=by
   unfold yL
   split
   ·exact ⟨a1,a2,a3⟩
   split
   ·exact ⟨a1,a2,a3⟩
   split
   ·dsimp only
    split<;>exact ⟨a1,a2,a3⟩
   split<;>exact ⟨a1,a2,a3⟩
  unfold zgj
  refine ⟨hs,?_,?_⟩
  ·dsimp only
   split
   ·exact ⟨M.who,fun _=>⟨hd.1,hd.2.1,hd.2.2,a4⟩,fun e=>(by dsimp only at e;omega),fun e=>(by dsimp only at e;omega),fun e=>(by dsimp only at e;omega)⟩
   ·split
    ·rw [hP];exact MOk.ask M.who
    ·exact ⟨M.who,fun _=>⟨hd.1,hd.2.1,hd.2.2,a4⟩,fun e=>(by dsimp only at e;omega),fun e=>(by dsimp only at e;omega),fun e=>(by dsimp only at e;omega)⟩
  ·dsimp only
   split
   ·exact fun e=>by dsimp only at e;omega
   ·split
    ·exact fun _ e=>by cases e
    ·exact fun e=>by dsimp only at e;omega
 split
 ·rename_i h2
  exact ⟨⟨hP,S.bins,S.nbk,S.mem,S.cF,S.cE,S.cL⟩,⟨M.who,fun e=>(by dsimp only at e;omega),fun e=>(by dsimp only at e;omega),fun e=>(by dsimp only at e;omega),fun e=>(by dsimp only at e;omega)⟩,fun e=>by dsimp only at e;omega⟩
 split
 ·unfold zgv
  refine ⟨⟨hP,S.bins,S.nbk,S.mem,S.cF,S.cE,S.cL⟩,?_,?_⟩
  ·dsimp only
   split
   ·exact ⟨M.who,fun e=>(by cases e),fun e=>(by cases e),fun e=>(by cases e),fun e=>(by cases e)⟩
   split
   ·exact ⟨M.who,fun _=>⟨rfl,by rw [hP],by rw [hP],by assumption⟩,fun e=>(by cases e),fun e=>(by cases e),fun e=>(by cases e)⟩
   split
   ·exact ⟨M.who,fun e=>(by cases e),fun e=>(by cases e),fun e=>(by cases e),fun e=>(by cases e)⟩
   ·rw [hP];exact MOk.ask M.who
  ·dsimp only
   split
   ·exact fun e=>by cases e
   split
   ·exact fun e=>by cases e
   split
   ·exact fun e=>by cases e
   ·exact fun _ e=>by cases e
 ·exact ⟨⟨hP,S.bins,S.nbk,S.mem,S.cF,S.cE,S.cL⟩,⟨M.who,fun e=>(by cases e),fun e=>(by cases e),fun e=>(by cases e),fun e=>(by cases e)⟩,fun e=>by cases e⟩
theorem Vf (s:za) (g:zA):(zp s g).2.Obj=g.Obj∧(zp s g).2.Who=g.Who∧(zp s g).2.Mode=g.Mode:=by
 unfold zp
 split
 ·exact ⟨rfl,rfl,rfl⟩
 split
 ·unfold zaG;dsimp only;split<;>exact ⟨rfl,rfl,rfl⟩
 split
 ·exact ⟨rfl,rfl,rfl⟩
 split
 ·unfold zgl;dsimp only
  split
  ·exact ⟨rfl,rfl,rfl⟩
  ·split<;>exact ⟨rfl,rfl,rfl⟩
 split
 ·exact ⟨rfl,rfl,rfl⟩
 split
 ·unfold zgj;dsimp only
  split
  ·exact ⟨rfl,rfl,rfl⟩
  ·split<;>exact ⟨rfl,rfl,rfl⟩
 split
 ·exact ⟨rfl,rfl,rfl⟩
 split
 ·unfold zgv;dsimp only
  split
  ·exact ⟨rfl,rfl,rfl⟩
  split
  ·exact ⟨rfl,rfl,rfl⟩
  split<;>exact ⟨rfl,rfl,rfl⟩
 ·exact ⟨rfl,rfl,rfl⟩
end
end Go.Pe.G
namespace Go.Pe.G
open Go.Pe
noncomputable section
def OkV (nb:Nat) (v:BitVec 64):Prop:=yo v<nb∧0≤v.toInt∧v.toInt<nb
theorem zqU {nb:Nat} (h:1≤nb):OkV nb 0#64:=by
 refine ⟨by rw [zgx];simp;omega,by simp,by simp;omega⟩
theorem zog {nb:Nat} {b:Int} (h:0≤b) (h2:b<nb) (h3:nb<1000):OkV nb (BitVec.ofInt 64 b):=by
 have e:(BitVec.ofInt 64 b).toNat=b.toNat:=by rw [BitVec.toNat_ofInt];omega
 refine ⟨by rw [zgx,e];omega,?_⟩
 rw [toInt_ofInt h (by omega)]
 omega
theorem zo5 {b:Int} (h:0≤b) (h2:b<4294967296):yX 0#64 b=BitVec.ofInt 64 b:=by
 have e:(BitVec.ofInt 64 b).toNat=b.toNat:=by rw [BitVec.toNat_ofInt];omega
 apply BitVec.eq_of_toNat_eq
 unfold yX
 rw [BitVec.toNat_or,BitVec.toNat_and,e]
 have:b.toNat&&&(4294967295#64).toNat=b.toNat:=(Nat.and_two_pow_sub_one_eq_mod b.toNat 32).trans (Nat.mod_eq_of_lt (by omega))
 rw [this]
 simp
def Xq (F:Int) (nb:Nat) (m:List (BitVec 64)):Prop:=∀a,F≤a→OkV nb (ld m a)
theorem Xq.st {F:Int} {nb:Nat} {m:List (BitVec 64)} (h:Xq F nb m) (a:Int) {v:BitVec 64} (hv:OkV nb v):Xq F nb (st m a v):=fun b hb=>by
 rw [YI]
 split
 ·exact hv
 ·exact h b hb
theorem Xq.links {F:Int} {nb:Nat} (h1:1≤nb) (h3:nb<1000): ∀(l:List Int) (m:List (BitVec 64)) (n:Int),(∀b∈l,0≤b∧b<nb)→Xq F nb m→Xq F nb (links m n l)
 | [],m,n,_,h=>h
 | [a],m,n,_,h=>h.st _ (zqU h1)
 | a::b::l,m,n,hb,h=>Xq.links h1 h3 (b::l) _ n (fun x hx=>hb x (List.mem_cons_of_mem _ hx)) (h.st _ (zog (hb b (by simp)).1 (hb b (by simp)).2 h3))
theorem Xq.lay {F:Int} {nb:Nat} (h1:1≤nb) (h3:nb<1000) {l:List Int} {m:List (BitVec 64)} {hd n:Int} (hb: ∀b∈l,0≤b∧b<nb) (h:Xq F nb m):Xq F nb (zaC m hd n l):=by
 unfold zaC
 refine (Xq.links h1 h3 l m n hb h).st _ ?_
 cases l with
 | nil=>rw [List.headD_nil,zo5 (by omega) (by omega)];exact zog (by omega) (by omega) h3
 | cons a r =>
  have:=hb a (by simp)
  rw [List.headD_cons,zo5 this.1 (by omega)]
  exact zog this.1 this.2 h3
theorem zcz {k:Nat} {b:Int} (h:b∈xq k):1≤b∧b≤k:=by
 unfold xq at h
 obtain ⟨i,hi,rfl⟩:=List.mem_map.1 h
 have:=List.mem_range.1 hi
 omega
theorem Ul {p:zb} (h:zC p):(zQ p:Int)=p.Most+p.Workers+p.Mutators∧2≤zQ p∧zQ p≤14:=by
 have:=h.most
 have:=h.n
 have:=h.wk
 have:=h.mt
 unfold zQ
 omega
theorem zsx {p:zb} (h:zC p):SOk p (zQ p+1) (wi p):=by
 have hb:=Ul h
 have hf:=ziY h
 have hn:=h.n
 have hw:=h.wk
 have hc:=h.cap
 have hmo:=h.most
 have hF:=vT h
 have hE:=xx h
 have hcl:=Vm p p.Workers.toNat
 have hfe:zU p=((p.Workers.toNat*(p.Cap.toNat+2):Nat):Int):=by
  rw [hF.1]
  have e1:p.Workers=((p.Workers.toNat:Nat):Int):=by omega
  have e2:p.Cap+2=((p.Cap.toNat+2:Nat):Int):=by omega
  rw [e2,Int.natCast_mul]
  rw [←e1]
 have h0:Xq (zU p) (zQ p+1) (Z2 p p.Workers.toNat++List.replicate (2+zQ p) 0#64):=by
  intro a ha
  have:ld (Z2 p p.Workers.toNat++List.replicate (2+zQ p) 0#64) a=0#64:=by
   unfold ld
   rw [if_pos (by omega),List.getD_eq_getElem?_getD,List.getElem?_append_right (by omega),List.getElem?_replicate]
   split<;>rfl
  rw [this]
  exact zqU (by omega)
 have h1:Xq (zU p) (zQ p+1) (wi p).M:=by
  refine Xq.lay (by omega) (by omega) (fun b hb'=> ?_) (Xq.lay (by omega) (by omega) (fun b hb'=> ?_) h0)
  ·have:=zcz (List.mem_of_mem_drop hb');omega
  ·have:=zcz (List.mem_of_mem_take hb');omega
 have hlen:(wi p).M.length=p.Workers.toNat*(p.Cap.toNat+2)+(2+zQ p):=by
  show (zaC _ _ _ _).length=_
  rw [zmi,zmi,List.length_append,hcl,List.length_replicate]
 refine ⟨rfl,?_,by omega,by rw [hlen];omega,(h1 _ (by omega)).1,(h1 _ (by omega)).1,fun a ha=>(h1 a (by omega)).2⟩
 have hd:(wi p).Bins.length=1+(yY p).length+(zQ p-(yY p).length):=by
  show ([[]]++yY p++List.replicate (zQ p-(yY p).length) ([]:List Int)).length=_
  rw [List.length_append,List.length_append,List.length_replicate];rfl
 have h2:=hb.1
 have hmt:=h.mt
 rw [hd]
 omega
def Yw (mode obj who:Int):zA:=⟨0,mode,obj,who,⟨0,0,0,0,0#64,0#64,0,0⟩,⟨0,0,0,0,0#64,0,0,0⟩,0,0⟩
theorem ztl (a b c:Int):ze9 a b c=some (Yw a b c,()):=by rw [znw];rfl
end
end Go.Pe.G
namespace Go.Pe.G
open Go.Pe
noncomputable section
structure XC (s:za):Prop where
 m:s.M.length<1000000
 bins:s.Bins.length<1000000
 bin: ∀x∈s.Bins,x.length<1000000
 acks:s.Acks.length<1000000
 bal:s.L.Bal.length<1000000
 ws:s.Ws.length<1000000
 w: ∀x∈s.Ws,x.Batch.length<1000000
 ms:s.Ms.length<1000000
 mu: ∀x∈s.Ms,x.Regs.length<1000000∧x.Buf.length<1000000∧x.Batch.length<1000000
 objs:s.H.Objs.length<1000000
 obj: ∀x∈s.H.Objs,x.length<1000000
 pobjs:s.P.H.Objs.length<1000000
 pobj: ∀x∈s.P.H.Objs,x.length<1000000
 regs:s.P.Regs.length<1000000
 reg: ∀x∈s.P.Regs,x.length<1000000
 progs:s.P.Progs.length<1000000
 prog: ∀x∈s.P.Progs,x.length<1000000
 picks:s.P.Picks.length<1000000
theorem UG (m:List (BitVec 64)) (c:zx):(zj m c).1.length=m.length:=by
 unfold zj sw
 split
 ·rfl
 split
 ·rfl
 split
 ·split<;>simp [Zu]
 ·dsimp only;split<;>simp [Zu]
theorem zed (m:List (BitVec 64)) (d:zg):(yL m d).1.length=m.length:=by
 unfold yL
 split
 ·rfl
 split
 ·rfl
 split
 ·rfl
 split<;>simp [Zu]
theorem zej (s:za) (g:zA): ∃m b t w f,(zp s g).1={s with M:=m,Bins:=b,T:=t,Work:=w,Flag:=f}∧m.length=s.M.length∧b.length=s.Bins.length ∧
  (∀x∈b,x∈s.Bins∨x=[g.Obj])∧(t=s.T∨t=(uw s.T g.Obj).1)∧(w=s.Work∨w=wc (s.Work+1)∨w=wc (s.Work-1)):=by
 unfold zp
 split
 ·exact ⟨s.M,s.Bins,s.T,s.Work,s.Flag,rfl,rfl,rfl,fun x h=> .inl h,.inl rfl,.inl rfl⟩
 split
 ·exact ⟨_,s.Bins,s.T,s.Work,s.Flag,rfl,UG _ _,rfl,fun x h=> .inl h,.inl rfl,.inl rfl⟩
 split
 ·refine ⟨s.M,_,s.T,s.Work,s.Flag,rfl,rfl,by simp,fun x h=> ?_,.inl rfl,.inl rfl⟩
  rcases List.mem_or_eq_of_mem_set h with h | h
  ·exact .inl h
  ·exact .inr h
 split
 ·exact ⟨_,s.Bins,s.T,s.Work,s.Flag,rfl,UG _ _,rfl,fun x h=> .inl h,.inl rfl,.inl rfl⟩
 split
 ·exact ⟨s.M,s.Bins,s.T,s.Work,true,rfl,rfl,rfl,fun x h=> .inl h,.inl rfl,.inl rfl⟩
 split
 ·exact ⟨_,s.Bins,s.T,s.Work,s.Flag,rfl,zed _ _,rfl,fun x h=> .inl h,.inl rfl,.inl rfl⟩
 split
 ·exact ⟨s.M,s.Bins,s.T,_,s.Flag,rfl,rfl,rfl,fun x h=> .inl h,.inl rfl,.inr (.inr rfl)⟩
 split
 ·exact ⟨s.M,s.Bins,_,s.Work,s.Flag,rfl,rfl,rfl,fun x h=> .inl h,.inr rfl,.inl rfl⟩
 ·exact ⟨s.M,s.Bins,s.T,_,s.Flag,rfl,rfl,rfl,fun x h=> .inl h,.inl rfl,.inr (.inl rfl)⟩
theorem zpl {p:zb} (h:zC p):XC (wi p):=by
 have S:=zsx h
 have hb:=Ul h
 have hg:=zjW h
 have hn:=h.n
 have hm:=h.mt
 have hw:=h.wk
 have hs:=h.slots
 have hrl:=h.regs
 have hpl:=h.progs
 have hobj: ∀o∈p.H.Objs,o.length<1000000:=fun o ho=>by have:=(h.objs o ho).1;omega
 have hreg: ∀r∈p.Regs,r.length<1000000:=fun r hr=>by have:=(h.reg r hr).1;omega
 refine ⟨by have:=S.mem;omega,by rw [S.bins];omega,fun x hx=> ?_,?_,?_,?_,fun x hx=> ?_,?_,fun x hx=> ?_,by show p.H.Objs.length<_;omega,hobj,by show p.H.Objs.length<_;omega,hobj,by show p.Regs.length<_;omega,hreg,by show p.Progs.length<_;omega,fun x hx=> ?_,?_⟩
 ·have hx:x∈[[]]++yY p++List.replicate (zQ p-(yY p).length) []:=hx
  rcases List.mem_append.1 hx with hx | hx
  ·rcases List.mem_append.1 hx with hx | hx
   ·simp at hx;subst hx;simp
   ·have:=zg5 _ _ _ _ hx;omega
  ·have:=(List.mem_replicate.1 hx).2;subst this;simp
 ·show (List.replicate p.Mutators.toNat (0:Int)).length<_;simp;omega
 ·show (List.replicate p.Mutators.toNat (0:Int)).length<_;simp;omega
 ·show ((List.range p.Workers.toNat).map (uW p)).length<_;simp;omega
 ·have hx:x∈(List.range p.Workers.toNat).map (uW p):=hx
  obtain ⟨i,_,rfl⟩:=List.mem_map.1 hx
  simp [uW]
 ·show (p.Regs.map ut).length<_;simp;omega
 ·have hx:x∈p.Regs.map ut:=hx
  obtain ⟨r,hr,rfl⟩:=List.mem_map.1 hx
  exact ⟨hreg r hr,by simp [ut],by simp [ut]⟩
 ·obtain ⟨i,hi⟩:=List.getElem?_of_mem hx
  have hlt:=(List.getElem?_eq_some_iff.1 hi).1
  have:=(h.prog i _ x (List.getElem?_eq_getElem (show i<p.Regs.length from (show p.Progs.length=p.Regs.length by omega)▸hlt)) hi).1
  omega
 ·show p.Picks.length<_;rw [h.picks];simp
end
end Go.Pe.G
namespace Go.Pe.G
open Go.Pe
noncomputable section
theorem X1 {α B C:Type} {f:List α×List α×Int×Int×Unit→Option (xz (List α×List α×Int×Int×Unit) B C)} {l:List α} {b:B} (hl:l.length<1000000)
  (h1: ∀(i:Nat) (x:α),l[i]? =some x→f (l,l,(l.length:Int),(i:Int),())=some (.again (l,l,(l.length:Int),((i+1:Nat):Int),())))
  (h2:f (l,l,(l.length:Int),(l.length:Int),())=some (.brk b)):yh f (l,l,(l.length:Int),0,())=some (.brk b):=by
 refine (uq (f:=f) (fun a=>∃i:Nat,a=(l,l,(l.length:Int),(i:Int),())∧i≤l.length) (fun a=>l.length-a.2.2.2.1.toNat) (fun o=>o= .brk b) ?_ (l,l,(l.length:Int),0,()) ⟨0,rfl,by omega⟩ (vc (by dsimp only;omega))).elim fun o h=> ?_
 rotate_left
 ·rw [h.1,h.2]
 ·rintro _ ⟨i,rfl,hi⟩
  rcases Nat.lt_or_ge i l.length with hlt | hge
  ·refine ⟨_,h1 i _ (List.getElem?_eq_getElem hlt),⟨i+1,rfl,hlt⟩,?_⟩
   show l.length-((i+1:Nat):Int).toNat<l.length-(i:Int).toNat
   omega
  ·have:i=l.length:=by omega
   subst this
   exact ⟨_,h2,rfl⟩
theorem wv {l:List (Int)} (hl:l.length<1000000):yq l l=some (true,()):=by
 rw [zdX,yD,if_pos rfl,X1 (b:=()) hl (fun i x hx=> ?_) (by rw [Wv];simp)]
 ·rfl
 ·have hlt:=uA hx
  rw [Wv,zw,if_pos hlt,w9 hx,Option.bind_some,Option.bind_some,xy (by omega)]
  simp
theorem zaI {l:List (BitVec 64)} (hl:l.length<1000000):ZE l l=some (true,()):=by
 rw [zaK,yD,if_pos rfl,X1 (b:=()) hl (fun i x hx=> ?_) (by rw [Yg];simp)]
 ·rfl
 ·have hlt:=uA hx
  rw [Yg,zw,if_pos hlt,w9 hx,Option.bind_some,Option.bind_some,xy (by omega)]
  simp
theorem zbH {l:List (Int)} (hl:l.length<1000000):ZW l l=some (true,()):=by
 rw [zbU,yD,if_pos rfl,X1 (b:=()) hl (fun i x hx=> ?_) (by rw [Y0];simp)]
 ·rfl
 ·have hlt:=uA hx
  rw [Y0,zw,if_pos hlt,w9 hx,Option.bind_some,Option.bind_some,xy (by omega)]
  simp
theorem U1 {l:List (zk)} (hl:l.length<1000000):Ze l l=some (true,()):=by
 rw [U0,yD,if_pos rfl,X1 (b:=()) hl (fun i x hx=> ?_) (by rw [ZR];simp)]
 ·rfl
 ·have hlt:=uA hx
  rw [ZR,zw,if_pos hlt,w9 hx,Option.bind_some,Option.bind_some,xy (by omega)]
  simp
theorem VL {l:List (zm)} (hl:l.length<1000000):ui l l=some (true,()):=by
 rw [VW,yD,if_pos rfl,X1 (b:=()) hl (fun i x hx=> ?_) (by rw [Zi];simp)]
 ·rfl
 ·have hlt:=uA hx
  rw [Zi,zw,if_pos hlt,w9 hx,Option.bind_some,Option.bind_some,xy (by omega)]
  simp
theorem wG {l:List (List Int)} (hl:l.length<1000000) (he: ∀x∈l,x.length<1000000):zt l l=some (true,()):=by
 rw [ur,yD,if_pos rfl,X1 (b:=()) hl (fun i x hx=> ?_) (by rw [xu];simp)]
 ·rfl
 ·have hlt:=uA hx
  rw [xu,zw,if_pos hlt,w9 hx,Option.bind_some,Option.bind_some,wv (he x (List.mem_of_getElem? hx)),Option.bind_some,xy (by omega)]
  simp
theorem Zy {l:List (List zk)} (hl:l.length<1000000) (he: ∀x∈l,x.length<1000000):ym l l=some (true,()):=by
 rw [wm,yD,if_pos rfl,X1 (b:=()) hl (fun i x hx=> ?_) (by rw [yJ];simp)]
 ·rfl
 ·have hlt:=uA hx
  rw [yJ,zw,if_pos hlt,w9 hx,Option.bind_some,Option.bind_some,U1 (he x (List.mem_of_getElem? hx)),Option.bind_some,xy (by omega)]
  simp
theorem zrU {w:ze} (h:w.Batch.length<1000000):VR w w=some (true,()):=by
 rw [zhx,wv h];simp
theorem zqT {m:zc} (h:m.Regs.length<1000000∧m.Buf.length<1000000∧m.Batch.length<1000000):Vi m m=some (true,()):=by
 rw [zf3,wv h.1,wv h.2.1,wv h.2.2,zeA];simp
theorem vE {l:List (ze)} (hl:l.length<1000000) (he: ∀x∈l,x.Batch.length<1000000):z9 l l=some (true,()):=by
 rw [wa,yD,if_pos rfl,X1 (b:=()) hl (fun i x hx=> ?_) (by rw [yE];simp)]
 ·rfl
 ·have hlt:=uA hx
  rw [yE,zw,if_pos hlt,w9 hx,Option.bind_some,Option.bind_some,zrU (he x (List.mem_of_getElem? hx)),Option.bind_some,xy (by omega)]
  simp
theorem vg {l:List (zc)} (hl:l.length<1000000) (he: ∀x∈l,x.Regs.length<1000000∧x.Buf.length<1000000∧x.Batch.length<1000000):zY l l=some (true,()):=by
 rw [xH,yD,if_pos rfl,X1 (b:=()) hl (fun i x hx=> ?_) (by rw [yA];simp)]
 ·rfl
 ·have hlt:=uA hx
  rw [yA,zw,if_pos hlt,w9 hx,Option.bind_some,Option.bind_some,zqT (he x (List.mem_of_getElem? hx)),Option.bind_some,xy (by omega)]
  simp
theorem zpp {h:zG} (h1:h.Objs.length<1000000) (h2: ∀x∈h.Objs,x.length<1000000):Zm h h=some (true,()):=by
 rw [zol,wG h1 h2];simp
theorem ztO {s:za} (h:XC s):zbF s s=some (true,()):=by
 have hp:ZT s.P s.P=some (true,()):=by
  rw [zoq,zhz,zpp h.pobjs h.pobj,wG h.regs h.reg,Zy h.progs h.prog,VL h.picks]
  simp
 have hl:uM s.L s.L=some (true,()):=by
  rw [zl2,zbH h.bal];simp
 have hm:YM s.M s.M=some (true,()):=by
  rw [zpD,zaI h.m];rfl
 rw [znp,hp,zpp h.objs h.obj,hm,wG h.bins h.bin,wv h.acks,hl,vE h.ws h.w,vg h.ms h.mu]
 simp
end
end Go.Pe.G
namespace Go.Pe.G
open Go.Pe
noncomputable section
def goF {S:Type} (g:Nat→S→S):Nat→Nat→S→S
 | _,0,s=>s
 | i,k+1,s=>goF g (i+1) k (g i s)
theorem zot {S σ B C:Type} {f:σ→Option (xz σ B C)} (A:Int→S→σ) (b:S→B) (n:Nat) (hn:n<1000000) (g:Nat→S→S) (Inv:S→Prop) (hg: ∀i s,Inv s→Inv (g i s))
  (h1: ∀(i:Nat) s,i<n→Inv s→f (A (i:Int) s)=some (.again (A ((i+1:Nat):Int) (g i s)))) (h2: ∀s,Inv s→f (A (n:Int) s)=some (.brk (b s))) {s:S} (hs:Inv s) :
  yh f (A 0 s)=some (.brk (b (goF g 0 n s))):=by
 have key: ∀(k i:Nat) (s:S),n-i=k→i≤n→Inv s→∀m,k<m→Z3 f m (A (i:Int) s)=some (.brk (b (goF g i k s))):=by
  intro k
  induction k with
  | zero =>
   intro i s hk hi hs m hm
   have:i=n:=by omega
   subst this
   obtain ⟨m,rfl⟩: ∃x,m=x+1:=⟨m-1,by omega⟩
   simp only [Z3]
   rw [h2 s hs];rfl
  | succ k ih =>
   intro i s hk hi hs m hm
   obtain ⟨m,rfl⟩: ∃x,m=x+1:=⟨m-1,by omega⟩
   simp only [Z3]
   rw [h1 i s (by omega) hs,Option.bind_some]
   exact ih (i+1) _ (by omega) (by omega) (hg i s hs) m (by omega)
 have:=key n 0 s (by omega) (by omega) hs WF (vc (by omega))
 rw [zaA]
 exact this
end
end Go.Pe.G
namespace Go.Pe.G
open Go.Pe
noncomputable section
def Ua (m:List (BitVec 64)) (d:zg):List (BitVec 64)×zg :=
 if d.PC<0∨7≤d.PC then (m,d)
 else if d.PC=0 then (m,{d with B:=ld m (wc (d.Base+1)),PC:=1})
 else if d.PC=1 then (st m (wc (d.Base+1)) (d.B-1#64),{d with PC:=2})
 else if d.PC=2 then (m,{d with T:=ld m d.Base,PC:=if 0<(ld m d.Base-(d.B-1#64)).toInt then 5 else 3})
 else if d.PC=3 then (m,{d with X:=(ld m (Xd d (d.B-1#64))).toInt,PC:=4,Out:=if d.T=d.B-1#64 then d.Out else 1})
 else if d.PC=4 then ((sw m d.Base d.T (d.T+1#64)).1,{d with PC:=if (sw m d.Base d.T (d.T+1#64)).2 then 6 else 5})
 else if d.PC=5 then (st m (wc (d.Base+1)) d.B,{d with X:=0,Out:=2,PC:=6})
 else (st m (wc (d.Base+1)) d.B,{d with Out:=1,PC:=7})
def Yc (m:List (BitVec 64)) (d:zg):List (BitVec 64)×zg :=
 if d.PC<0∨4≤d.PC then (m,d)
 else if d.PC=0 then (m,{d with T:=ld m d.Base,PC:=1})
 else if d.PC=1 then (m,{d with B:=ld m (wc (d.Base+1)),PC:=2,Out:=if 0<(ld m (wc (d.Base+1))-d.T).toInt then d.Out else 2})
 else if d.PC=2 then (m,{d with X:=(ld m (Xd d d.T)).toInt,PC:=3})
 else ((sw m d.Base d.T (d.T+1#64)).1,if (sw m d.Base d.T (d.T+1#64)).2 then {d with Out:=1,PC:=4} else {d with X:=0,Out:=4,PC:=4})
def zL (m:List (BitVec 64)) (d:zg):List (BitVec 64)×zg :=
 if d.Out≠0 then (m,d) else if d.Kind=1 then yL m d else if d.Kind=2 then Ua m d else if d.Kind=3 then Yc m d else (m,d)
theorem zsj {m:List (BitVec 64)} {d:zg} (h:d.Kind=1):zL m d=yL m d:=by
 unfold zL
 by_cases h0:d.Out≠0
 ·rw [if_pos h0];unfold yL;rw [if_pos (.inl h0)]
 ·rw [if_neg h0,if_pos h]
theorem zsK {α:Type} {x y:Option α} {v:α} (h:x=some v):Option.or x y=some v:=by subst h;rfl
theorem zeI {α:Type} {x y z:Option α} (h:x=none) (h2:y=z):Option.or x y=z:=by subst h;exact h2
theorem zvm:wc 1=1∧wc 2=2∧wc 3=3∧wc 4=4∧wc 5=5∧wc 6=6∧wc 7=7:=by decide
theorem zt7:w64 5=5∧w64 6=6∧w64 7=7:=by
 refine ⟨?_,?_,?_⟩<;>exact yW (by omega) (by omega)
theorem ztx {m:List (BitVec 64)} (hm:m.length<4294967296) {d:zg} (hc:d.Cap<1000):Ur m d=some ((zL m d).1,(zL m d).2,()):=by
 by_cases k1:d.Kind=1
 ·rw [zsj k1];exact zgu hm k1 hc
 obtain ⟨w0,w1,w2,w3,w4⟩:=zrn
 obtain ⟨w5,w6,w7⟩:=zt7
 obtain ⟨v1,v2,v3,v4,v5,v6,v7⟩:=zvm
 have hsb: ∀d:zg,wP m d=some (m,{d with B:=ld m (wc (d.Base+1))},()):=fun d=>by
  rw [XH,xl,un,Option.bind_some,ZU];rfl
 have htk: ∀d:zg,YN m d=some ((sw m d.Base d.T (d.T+1#64)).1,(sw m d.Base d.T (d.T+1#64)).2,()):=fun d=>by
  obtain ⟨v,hv⟩:=zoP hm d.Base d.T (d.T+1#64)
  rw [zf8,uG,Option.bind_some,hv];rfl
 rw [zgG,zd6,zk9,zlb,zla]
 simp only [zw,yD,if_neg k1]
 unfold zL
 by_cases k2:d.Kind=2
 ·refine zeI (by simp [k2]) (zsK ?_)
  rw [if_pos k2,Option.bind_some]
  by_cases g0:d.Out=0
  rotate_left
  ·rw [if_neg g0,if_pos (show d.Out≠0 from g0)]
  rw [if_pos g0,if_neg (show ¬(d.Out≠0) from fun e=>e g0),if_neg k1,if_pos k2]
  unfold Ua
  by_cases g1:d.PC<0
  ·rw [if_pos g1,if_pos (.inl g1)]
  rw [if_neg g1]
  by_cases g2:7≤d.PC
  ·rw [if_pos g2,if_pos (.inr g2)]
  rw [if_neg g2,if_neg (show ¬(d.PC<0∨7≤d.PC) by omega)]
  have hpc:d.PC=0∨d.PC=1∨d.PC=2∨d.PC=3∨d.PC=4∨d.PC=5∨d.PC=6:=by omega
  rcases hpc with h | h | h | h | h | h | h
  ·simp [h,hsb,w1]
  ·simp [h,zeW,xl,un,zao hm,v1,v2,v3,v4,v5,v6,v7]
  ·rw [h,if_neg (by decide),if_neg (by decide),if_neg (by decide),if_neg (by decide),if_pos rfl,if_neg (by decide),if_neg (by decide),if_pos rfl]
   simp only [zcq,uG,Option.bind_some,ZU,zaD,zw]
   by_cases hs:0<(ld m d.Base-(d.B-1#64)).toInt
   ·simp only [if_pos hs,Option.bind_some,Int.reduceAdd,w5]
   ·simp only [if_neg hs,Option.bind_some,h,Int.reduceAdd,w3]
  ·simp only [h,zes,zc0 hc,Option.bind_some,ZU,yD,wB]
   by_cases hs:d.T=d.B-1#64
   ·simp [hs,w4,h]
   ·simp [hs,w4,h]
  ·simp only [h,zdN,htk,Option.bind_some]
   cases hs:(sw m d.Base d.T (d.T+1#64)).2 with
   | true=>simp [hs,w6,h]
   | false=>simp [hs,w5,h]
  ·simp [h,zdM,wB,k1,xl,un,zao hm,v1,v2,v3,v4,v5,v6,v7]
  ·simp [h,zek,wB,xl,un,zao hm,v1,v2,v3,v4,v5,v6,v7]
 by_cases k3:d.Kind=3
 ·refine zeI (by simp [k2,k3]) (zeI (by simp [k2,k3]) (zsK ?_))
  rw [if_neg k2,if_pos k3,Option.bind_some]
  by_cases g0:d.Out=0
  rotate_left
  ·rw [if_neg g0,if_pos (show d.Out≠0 from g0)]
  rw [if_pos g0,if_neg (show ¬(d.Out≠0) from fun e=>e g0),if_neg k1,if_neg k2,if_pos k3]
  unfold Yc
  by_cases g1:d.PC<0
  ·rw [if_pos g1,if_pos (.inl g1)]
  rw [if_neg g1]
  by_cases g2:4≤d.PC
  ·rw [if_pos g2,if_pos (.inr g2)]
  rw [if_neg g2,if_neg (show ¬(d.PC<0∨4≤d.PC) by omega)]
  have hpc:d.PC=0∨d.PC=1∨d.PC=2∨d.PC=3:=by omega
  rcases hpc with h | h | h | h
  ·simp [h,zeD,uG,ZU,w1]
  ·rw [h,if_neg (by decide),if_neg (by decide),if_pos rfl,if_neg (by decide),if_pos rfl]
   simp only [zey,xl,Option.bind_some,ZU,zaD,yD,un]
   by_cases hs:0<(ld m (wc (d.Base+1))-d.T).toInt
   ·simp only [if_pos hs,Option.bind_some,Int.reduceAdd,v2,h]
   ·simp only [if_neg hs,Option.bind_some,Int.reduceAdd,v2,h]
  ·simp [h,zdY,zc0 hc,ZU,w3]
  ·simp only [h,zcF,htk,Option.bind_some,wB]
   cases hs:(sw m d.Base d.T (d.T+1#64)).2 with
   | true=>simp [hs,w4,h]
   | false=>simp [hs,w4,h,k1]
 ·refine zeI (by simp [k2,k3]) (zeI (by simp [k2,k3]) (zeI (by simp [k2,k3]) ?_))
  rw [if_neg k2,if_neg k3,Option.bind_some]
  by_cases g0:d.Out=0
  ·simp [g0,k1,k2,k3]
  ·simp [g0]
theorem ztE (m:List (BitVec 64)) (d:zg):(Ua m d).1.length=m.length∧(Ua m d).2.Kind=d.Kind∧(Ua m d).2.Base=d.Base∧(Ua m d).2.Cap=d.Cap:=by
 unfold Ua sw st
 split
 ·exact ⟨rfl,rfl,rfl,rfl⟩
 split
 ·exact ⟨rfl,rfl,rfl,rfl⟩
 split
 ·refine ⟨?_,rfl,rfl,rfl⟩;dsimp only;split<;>simp
 split
 ·exact ⟨rfl,rfl,rfl,rfl⟩
 split
 ·exact ⟨rfl,rfl,rfl,rfl⟩
 split
 ·refine ⟨?_,rfl,rfl,rfl⟩;dsimp only;split<;>(try split)<;>simp
 split<;>(refine ⟨?_,rfl,rfl,rfl⟩;dsimp only;split<;>simp)
theorem zrb (m:List (BitVec 64)) (d:zg):(Yc m d).1.length=m.length∧(Yc m d).2.Kind=d.Kind∧(Yc m d).2.Base=d.Base∧(Yc m d).2.Cap=d.Cap:=by
 unfold Yc sw st
 split
 ·exact ⟨rfl,rfl,rfl,rfl⟩
 split
 ·exact ⟨rfl,rfl,rfl,rfl⟩
 split
 ·exact ⟨rfl,rfl,rfl,rfl⟩
 split
 ·exact ⟨rfl,rfl,rfl,rfl⟩
 ·refine ⟨?_,?_,?_,?_⟩<;>dsimp only<;>split<;>(try split)<;>simp
end
end Go.Pe.G
namespace Go.Pe.G
open Go.Pe
noncomputable section
def yw (h:zG) (o:Int):List Int:=h.Objs.getD (o-1).toNat []
def yZ (h:zG) (o s:Int):Bool:=decide (1≤o)&&decide (o≤(h.Objs.length:Int))&&decide (0≤s)&&decide (s<((yw h o).length:Int))
def zM (h:zG) (o s:Int):Int:=if yZ h o s then (yw h o).getD s.toNat 0 else 0
def zP (s:BitVec 64) (o:Int):Bool:= !(decide (s&&&bit o=0#64))
def xk (t:zn) (o:Int):Int:=if zP (t.Marks&&&t.Black) o then 2 else if zP t.Marks o then 1 else 0
def wR (t:zn) (o:Int):zn:=if xk t o=1 then {t with Black:=t.Black|||bit o} else t
def UP (l:zq) (who:Int):zq :=
 if 1≤who∧who≤(l.Bal.length:Int) then {l with Scanned:=wc (l.Scanned+1),Bal:=l.Bal.set (who-1).toNat (wc (l.Bal.getD (who-1).toNat 0+1))}
 else {l with Scanned:=wc (l.Scanned+1),Pool:=wc (l.Pool+1)}
def ZS (s:za) (b:Int):List Int:=s.Bins.getD b.toNat []
def zn7 (p:zb) (h x:Int):zx:=⟨2,0,h,zD p,0#64,x,0,0⟩
def XD (p:zb) (h x:Int):zx:=⟨1,0,h,zD p,0#64,x,0,0⟩
def onW (s:za) (slot:Int):Int:=if slot=s.H.Slots then 8 else 5
def X3 (p:zb) (w:Int) (x:ze):ze:={x with PC:=0,Victim:=w,D:=⟨2,0,zF p w,p.Cap,0#64,0#64,0,0⟩}
def Xx (n v:Int):Int:=if v<n then v+1 else 1
def vn (p:zb) (w:Int) (x:ze):ze :=
 if Xx p.Workers x.Victim=w then {x with PC:=2,Victim:=w,C:=zn7 p (zU p) 0}
 else {x with PC:=1,Victim:=Xx p.Workers x.Victim,D:=⟨3,0,zF p (Xx p.Workers x.Victim),p.Cap,0#64,0#64,0,0⟩}
def zh (s:za) (w:Int) (x:ze):za×ze :=
 if x.PC=0∨x.PC=1 then
  ({s with M:=(zL s.M x.D).1},
   if (zL s.M x.D).2.Out=1 then {x with D:=(zL s.M x.D).2,Victim:=w,PC:=5,Obj:=(zL s.M x.D).2.X,Slot:=0}
   else if (zL s.M x.D).2.Out=2∨(zL s.M x.D).2.Out=4 then vn s.P w {x with D:=(zL s.M x.D).2} else {x with D:=(zL s.M x.D).2})
 else if x.PC=2 then
  ({s with M:=(zj s.M x.C).1},
   if (zj s.M x.C).2.Out=1 then {x with C:=(zj s.M x.C).2,Bin:=(zj s.M x.C).2.X,PC:=3}
   else if (zj s.M x.C).2.Out=2 then X3 s.P w {x with C:=(zj s.M x.C).2} else {x with C:=(zj s.M x.C).2})
 else if x.PC=3 then ({s with Bins:=s.Bins.set x.Bin.toNat []},{x with Batch:=ZS s x.Bin,PC:=4,C:=XD s.P (zD s.P) x.Bin})
 else if x.PC=4 then
  ({s with M:=(zj s.M x.C).1},if (zj s.M x.C).2.Out=1 then {x with C:=(zj s.M x.C).2,Bin:=0,PC:=7} else {x with C:=(zj s.M x.C).2})
 else if x.PC=5 then
  (s,if zM s.H x.Obj x.Slot=0 then {x with Slot:=wc (x.Slot+1),PC:=onW s (wc (x.Slot+1))} else {x with Slot:=wc (x.Slot+1),PC:=6,G:=Yw 1 (zM s.H x.Obj x.Slot) w})
 else if x.PC=6 then ((zp s x.G).1,if (zp s x.G).2.Out=1 then {x with G:=(zp s x.G).2,PC:=onW s x.Slot} else {x with G:=(zp s x.G).2})
 else if x.PC=7 then (s,match x.Batch with | []=>X3 s.P w x | o::l=>{x with Batch:=l,PC:=5,Obj:=o,Slot:=0})
 else if x.PC=8 then ({s with T:=wR s.T x.Obj,L:=UP s.L 0},{x with PC:=9})
 else if x.PC=9 then ({s with Work:=wc (s.Work-1)},{x with Obj:=0,PC:=7})
 else (s,x)
def zE (s:za) (w:Int):za :=
 if s.Done=true∨w<1∨(s.Ws.length:Int)<w then s
 else match s.Ws[(w-1).toNat]? with
  | some x=>{(zh s w x).1 with Ws:=s.Ws.set (w-1).toNat (zh s w x).2}
  | none=>s
structure zts (p:zb) (nb:Nat) (hd:Int) (c:zx):Prop where
 k:c.Kind=2
 h:c.Head=hd
 n:c.Next=zD p
 v:1≤c.PC→1≤yo c.H∧yo c.H<nb
 y:2≤c.PC→0≤c.Y∧c.Y<nb
 o:c.Out≠1
structure zqw (p:zb) (nb:Nat) (hd:Int) (c:zx):Prop where
 k:c.Kind=1
 h:c.Head=hd
 n:c.Next=zD p
 x:1≤c.X∧c.X<nb
 v:1≤c.PC→yo c.H<nb
theorem zsn {p:zb} {nb:Nat} {hd x:Int}:zts p nb hd (zn7 p hd x) :=
 ⟨rfl,rfl,rfl,fun e=>absurd e (by show ¬(1:Int)≤0;decide),fun e=>absurd e (by show ¬(2:Int)≤0;decide),by show (0:Int)≠1;decide⟩
theorem zqC {p:zb} {nb:Nat} {hd x:Int} (h:1≤x∧x<nb):zqw p nb hd (XD p hd x) :=
 ⟨rfl,rfl,rfl,h,fun e=>absurd e (by show ¬(1:Int)≤0;decide)⟩
structure WOk (p:zb) (nb:Nat) (w:Int) (x:ze):Prop where
 pc:0≤x.PC∧x.PC≤9
 vic:1≤x.Victim∧x.Victim≤p.Workers
 d0:x.PC=0→x.D.Kind=2∧x.D.Base=zF p w∧x.D.Cap=p.Cap
 d1:x.PC=1→x.D.Kind=3∧x.D.Base=zF p x.Victim∧x.D.Cap=p.Cap
 c2:x.PC=2→zts p nb (zU p) x.C
 b3:x.PC=3→1≤x.Bin∧x.Bin<nb
 c4:x.PC=4→zqw p nb (zD p) x.C
 g6:x.PC=6→MOk p nb x.G∧(x.G.PC=5→x.G.C.Out≠1)∧x.G.Mode=1∧x.G.PC≠4
theorem WOk.plain {p:zb} {nb:Nat} {w:Int} {x:ze} (pc:x.PC=5∨x.PC=7∨x.PC=8∨x.PC=9) (vic:1≤x.Victim∧x.Victim≤p.Workers):WOk p nb w x :=
 ⟨by omega,vic,fun e=>by omega,fun e=>by omega,fun e=>by omega,fun e=>by omega,fun e=>by omega,fun e=>by omega⟩
theorem SOk.swLow {p:zb} {nb:Nat} {s:za} (h:zC p) (S:SOk p nb s) {a:Int} (ha:a<zU p) (x v:BitVec 64):SOk p nb {s with M:=(sw s.M a x v).1}:=by
 unfold sw
 split
 ·exact S.low h ha v
 ·exact S
theorem zyb {p:zb} {nb:Nat} {s:za} (h:zC p) (S:SOk p nb s) {d:zg} {v:Int} (hv:1≤v∧v≤p.Workers) (hk:d.Kind=2∨d.Kind=3) (hb:d.Base=zF p v):SOk p nb {s with M:=(zL s.M d).1}:=by
 have hd:=uV h hv.1 hv.2
 have hc:=h.cap
 have hf:=vT h
 have e1:wc (d.Base+1)=d.Base+1:=xm (by omega) (by omega)
 unfold zL
 split
 ·exact S
 split
 ·omega
 split
 ·unfold Ua
  rw [e1]
  split
  ·exact S
  split
  ·exact S
  split
  ·exact S.low h (by omega) _
  split
  ·exact S
  split
  ·exact S
  split
  ·exact S.swLow h (by omega) _ _
  split<;>exact S.low h (by omega) _
 split
 ·unfold Yc
  split
  ·exact S
  split
  ·exact S
  split
  ·exact S
  split
  ·exact S
  ·exact S.swLow h (by omega) _ _
 ·exact S
theorem zg4 (m:List (BitVec 64)) (d:zg):(zL m d).1.length=m.length∧(zL m d).2.Kind=d.Kind∧(zL m d).2.Base=d.Base∧(zL m d).2.Cap=d.Cap:=by
 unfold zL
 split
 ·exact ⟨rfl,rfl,rfl,rfl⟩
 split
 ·unfold yL
  split
  ·exact ⟨rfl,rfl,rfl,rfl⟩
  split
  ·exact ⟨rfl,rfl,rfl,rfl⟩
  split
  ·refine ⟨rfl,?_,?_,?_⟩<;>dsimp only<;>split<;>rfl
  split<;>exact ⟨Zu _ _ _,rfl,rfl,rfl⟩
 split
 ·exact ztE m d
 split
 ·exact zrb m d
 ·exact ⟨rfl,rfl,rfl,rfl⟩
theorem zvt {n v:Int} (h:1≤v∧v≤n):1≤Xx n v∧Xx n v≤n:=by unfold Xx;split<;>omega
theorem WOk.look {p:zb} {nb:Nat} {w:Int} {x:ze} (hw:1≤w∧w≤p.Workers) (vic:1≤x.Victim∧x.Victim≤p.Workers):WOk p nb w (vn p w x):=by
 have hn:=zvt vic
 unfold vn
 split
 ·exact ⟨⟨(by show (0:Int)≤2;decide),(by show (2:Int)≤9;decide)⟩,hw,fun e=>(by cases e),fun e=>(by cases e),fun _=>zsn,fun e=>(by cases e),fun e=>(by cases e),fun e=>(by cases e)⟩
 ·exact ⟨⟨(by show (0:Int)≤1;decide),(by show (1:Int)≤9;decide)⟩,hn,fun e=>(by cases e),fun _=>⟨rfl,rfl,rfl⟩,fun e=>(by cases e),fun e=>(by cases e),fun e=>(by cases e),fun e=>(by cases e)⟩
theorem WOk.begin {p:zb} {nb:Nat} {w:Int} {x:ze} (hw:1≤w∧w≤p.Workers):WOk p nb w (X3 p w x) :=
 ⟨⟨(by show (0:Int)≤0;decide),(by show (0:Int)≤9;decide)⟩,hw,fun _=>⟨rfl,rfl,rfl⟩,fun e=>(by cases e),fun e=>(by cases e),fun e=>(by cases e),fun e=>(by cases e),fun e=>(by cases e)⟩
theorem zsz (s:za) {g:zA} (h1:g.Mode=1) (h4:g.PC≠4):(zp s g).2.PC≠4∧(zp s g).1.Flag=s.Flag:=by
 have five:(5:Int)≠4:=by decide
 unfold zp
 split
 ·exact ⟨h4,rfl⟩
 split
 ·refine ⟨?_,rfl⟩;unfold zaG;dsimp only;split<;>exact h4
 split
 ·exact ⟨(by show (7:Int)≠4;decide),rfl⟩
 split
 ·refine ⟨?_,rfl⟩;unfold zgl;dsimp only
  split
  ·show (6:Int)≠4;decide
  split
  ·exact five
  ·exact h4
 split
 ·refine ⟨?_,rfl⟩;unfold zgj;dsimp only
  split
  ·exact h4
  split
  ·exact five
  ·exact h4
 split
 ·exact ⟨h4,rfl⟩
 split
 ·refine ⟨?_,rfl⟩;unfold zgv;dsimp only
  split
  ·show (2:Int)≠4;decide
  ·show (3:Int)≠4;decide
 ·exact ⟨(by show (1:Int)≠4;decide),rfl⟩
theorem zjA (s:za) (i:Int):onW s i=5∨onW s i=8:=by unfold onW;split<;>simp
theorem SOk.keep {p:zb} {nb:Nat} {s s':za} (S:SOk p nb s) (hP:s'.P=s.P) (hM:s'.M=s.M) (hB:s'.Bins.length=s.Bins.length):SOk p nb s' :=
 ⟨hP.trans S.P,hB.trans S.bins,S.nbk,by rw [hM];exact S.mem,by rw [hM];exact S.cF,by rw [hM];exact S.cE,by rw [hM];exact S.cL⟩
theorem zsJ {p:zb} {nb:Nat} {s:za} {w:Int} {x:ze} (h:zC p) (hw:1≤w∧w≤p.Workers) (S:SOk p nb s) (W:WOk p nb w x):SOk p nb (zh s w x).1∧WOk p nb w (zh s w x).2:=by
 have hP:=S.P
 unfold zh
 split
 ·rename_i h01
  have hv: ∃v,(1≤v∧v≤p.Workers)∧(x.D.Kind=2∨x.D.Kind=3)∧x.D.Base=zF p v:=by
   rcases h01 with e | e
   ·obtain ⟨a,b,c⟩:=W.d0 e;exact ⟨w,hw,.inl a,b⟩
   ·obtain ⟨a,b,c⟩:=W.d1 e;exact ⟨x.Victim,W.vic,.inr a,b⟩
  obtain ⟨v,hv1,hv2,hv3⟩:=hv
  refine ⟨zyb h S hv1 hv2 hv3,?_⟩
  obtain ⟨l1,l2,l3,l4⟩:=zg4 s.M x.D
  dsimp only
  split
  ·exact WOk.plain (.inl rfl) hw
  split
  ·rw [hP];exact WOk.look hw W.vic
  ·refine ⟨W.pc,W.vic,fun e=> ?_,fun e=> ?_,fun e=>by dsimp only at e;omega,fun e=>by dsimp only at e;omega,fun e=>by dsimp only at e;omega,fun e=>by dsimp only at e;omega⟩
   ·obtain ⟨a,b,c⟩:=W.d0 e;exact ⟨l2.trans a,l3.trans b,l4.trans c⟩
   ·obtain ⟨a,b,c⟩:=W.d1 e;exact ⟨l2.trans a,l3.trans b,l4.trans c⟩
 split
 ·rename_i h2
  have C:=W.c2 h2
  obtain ⟨b1,b2,b3,b4,b5,b6⟩:=zjs h S (.inl rfl) C.k C.h C.n C.v C.y C.o
  refine ⟨b1,?_⟩
  dsimp only
  split
  ·rename_i e1
   exact ⟨⟨(by show (0:Int)≤3;decide),(by show (3:Int)≤9;decide)⟩,W.vic,fun e=>(by cases e),fun e=>(by cases e),fun e=>(by cases e),fun _=>b6 e1,fun e=>(by cases e),fun e=>(by cases e)⟩
  split
  ·rw [hP];exact WOk.begin hw
  ·rename_i e1 e2
   exact ⟨W.pc,W.vic,fun e=>(by dsimp only at e;omega),fun e=>(by dsimp only at e;omega),fun _=>⟨b2,b3,b4,(b5 e1 e2).1,(b5 e1 e2).2,e1⟩,fun e=>(by dsimp only at e;omega),fun e=>(by dsimp only at e;omega),fun e=>(by dsimp only at e;omega)⟩
 split
 ·rename_i h3
  have B:=W.b3 h3
  refine ⟨S.keep rfl rfl (by simp),?_⟩
  rw [hP]
  exact ⟨⟨(by show (0:Int)≤4;decide),(by show (4:Int)≤9;decide)⟩,W.vic,fun e=>(by cases e),fun e=>(by cases e),fun e=>(by cases e),fun e=>(by cases e),fun _=>zqC B,fun e=>(by cases e)⟩
 split
 ·rename_i h4
  have C:=W.c4 h4
  obtain ⟨b1,b2,b3,b4,b5,b6⟩:=zok h S (.inr rfl) C.k C.h C.n C.x C.v
  refine ⟨b1,?_⟩
  dsimp only
  split
  ·exact WOk.plain (.inr (.inl rfl)) W.vic
  ·exact ⟨W.pc,W.vic,fun e=>(by dsimp only at e;omega),fun e=>(by dsimp only at e;omega),fun e=>(by dsimp only at e;omega),fun e=>(by dsimp only at e;omega),fun _=>⟨b2,b3,b4,b5,b6⟩,fun e=>(by dsimp only at e;omega)⟩
 split
 ·refine ⟨S,?_⟩
  dsimp only
  split
  ·rcases zjA s (wc (x.Slot+1)) with e | e<;>rw [e]
   ·exact WOk.plain (.inl rfl) W.vic
   ·exact WOk.plain (.inr (.inr (.inl rfl))) W.vic
  ·exact ⟨⟨(by show (0:Int)≤6;decide),(by show (6:Int)≤9;decide)⟩,W.vic,fun e=>(by cases e),fun e=>(by cases e),fun e=>(by cases e),fun e=>(by cases e),fun e=>(by cases e),fun _ =>
    ⟨⟨fun _=>hw,fun e=>(by cases e),fun e=>(by cases e),fun e=>(by cases e),fun e=>(by cases e)⟩,fun e=>(by cases e),rfl,by show (0:Int)≠4;decide⟩⟩
 split
 ·rename_i h6
  obtain ⟨g1,g2,g3,g4⟩:=W.g6 h6
  obtain ⟨r1,r2,r3⟩:=zkG h S g1 g2
  refine ⟨r1,?_⟩
  dsimp only
  split
  ·rcases zjA s x.Slot with e | e<;>rw [e]
   ·exact WOk.plain (.inl rfl) W.vic
   ·exact WOk.plain (.inr (.inr (.inl rfl))) W.vic
  ·exact ⟨W.pc,W.vic,fun e=>(by dsimp only at e;omega),fun e=>(by dsimp only at e;omega),fun e=>(by dsimp only at e;omega),fun e=>(by dsimp only at e;omega),fun e=>(by dsimp only at e;omega),fun _=>⟨r2,r3,(Vf s x.G).2.2.trans g3,(zsz s g3 g4).1⟩⟩
 split
 ·refine ⟨S,?_⟩
  dsimp only
  split
  ·rw [hP];exact WOk.begin hw
  ·exact WOk.plain (.inl rfl) W.vic
 split
 ·exact ⟨S.keep rfl rfl rfl,WOk.plain (.inr (.inr (.inr rfl))) W.vic⟩
 split
 ·exact ⟨S.keep rfl rfl rfl,WOk.plain (.inr (.inl rfl)) W.vic⟩
 ·have:=W.pc
  omega
end
end Go.Pe.G
namespace Go.Pe.G
open Go.Pe
noncomputable section
def Ye (h:zG) (o s v:Int):zG :=
 if yZ h o s=true∧0≤v∧v≤(h.Objs.length:Int) then {h with Objs:=h.Objs.set (o-1).toNat ((yw h o).set s.toNat v)} else h
def zbT (h:zG) (most:Int):Bool:=decide ((h.Objs.length:Int)<most)&&decide ((h.Objs.length:Int)<64)
def uK (h:zG):zG:={h with Objs:=h.Objs++[List.replicate h.Slots.toNat 0]}
def Uu (t:zn) (o:Int):zn:=if (uw t o).2=true then wR (uw t o).1 o else t
def zkJ (l:zq) (who:Int):Int:=l.Bal.getD (who-1).toNat 0
def zqJ (l:zq) (who:Int):Bool:=decide (1≤who)&&decide (who≤(l.Bal.length:Int))
def zoO (l:zq) (who price limit:Int):Bool:=zqJ l who&&decide (0≤price)&&decide (0≤limit)&&decide (price≤1000000)&&decide (limit≤1000000)
def zoh (l:zq) (who price limit:Int):Bool:=zoO l who price limit&&decide (wc (-limit)≤wc (zkJ l who-price))
def zdu (l:zq) (who price:Int):zq:={l with Spent:=wc (l.Spent+price),Bal:=l.Bal.set (who-1).toNat (wc (zkJ l who-price))}
def zt8 (l:zq) (who price limit:Int):Int:=if zoO l who price limit then (if zoh l who price limit then 0 else wc (wc (price-limit)-zkJ l who)) else -1
def zq9 (a b:Int):Int:=if b<a then b else a
def zgQ (l:zq) (who want:Int):zq×Int :=
 if zqJ l who=true∧0<zq9 want l.Pool then ({l with Pool:=wc (l.Pool-zq9 want l.Pool),Bal:=l.Bal.set (who-1).toNat (wc (zkJ l who+zq9 want l.Pool))},zq9 want l.Pool) else (l,0)
def Xg (p:zb) (m:Int):List zk:=p.Progs.getD (m-1).toNat []
def opM (p:zb) (m:Int) (x:zc):zk:=(Xg p m).getD x.IP.toNat ⟨0,0,0,0⟩
def Zo (x:zc) (r:Int):Int:=x.Regs.getD r.toNat 0
def vX (x:zc):zc:={x with PC:=0,IP:=wc (x.IP+1)}
def setM (x:zc) (r v:Int):zc:={x with PC:=0,IP:=wc (x.IP+1),Regs:=x.Regs.set r.toNat v}
def onM (s:za) (slot:Int):Int:=if slot=s.H.Slots then 38 else 36
def zpX (s:za) (m:Int) (x:zc):Int:=zM s.H (Zo x (opM s.P m x).A) (opM s.P m x).S
def zbG (s:za) (m:Int) (x:zc):zc :=
 if s.Acks.getD (m-1).toNat 0<s.Epoch then {x with PC:=1,Ret:=2,Want:=s.Epoch}
 else if ((Xg s.P m).length:Int)≤x.IP then x
 else if (opM s.P m x).Kind=1 then {x with PC:=10}
 else if (opM s.P m x).Kind=2 then {x with PC:=20}
 else if (opM s.P m x).Kind=3 then {x with PC:=30}
 else if (opM s.P m x).Kind=4 then setM x (opM s.P m x).R (Zo x (opM s.P m x).A)
 else setM x (opM s.P m x).R 0
def mu0 (s:za) (m:Int) (x:zc):za×zc :=
 (s,zbG s m x)
def mu1 (s:za) (m:Int) (x:zc):za×zc :=
 (s,if x.Buf.length=0 then {x with PC:=x.Ret} else {x with PC:=3,Buf:=x.Buf.take (x.Buf.length-1),G:=Yw 2 (x.Buf.getD (x.Buf.length-1) 0) m})
def mu2 (s:za) (m:Int) (x:zc):za×zc :=
 ({s with Acks:=s.Acks.set (m-1).toNat x.Want},{x with PC:=0})
def mu3 (s:za) (m:Int) (x:zc):za×zc :=
 ((zp s x.G).1,if (zp s x.G).2.Out=1 then {x with PC:=1,G:=(zp s x.G).2} else {x with G:=(zp s x.G).2})
def zht (s:za) (m:Int) (x:zc):za×zc :=
 (s,setM x (opM s.P m x).R (zpX s m x))
def zfr (s:za) (m:Int) (x:zc):za×zc :=
 (s,if Zo x (opM s.P m x).A=0 then vX x else {x with PC:=21,Old:=zpX s m x})
def zfO (s:za) (m:Int) (x:zc):za×zc :=
 (s,if x.Old=0∨xk s.T x.Old≠0 then {x with PC:=23,Old:=0} else {x with PC:=22})
def zfS (s:za) (m:Int) (x:zc):za×zc :=
 (s,if s.P.Buf≤(x.Buf.length:Int) then {x with PC:=1,Ret:=22} else {x with PC:=23,Old:=0,Buf:=x.Buf++[x.Old]})
def zfW (s:za) (m:Int) (x:zc):za×zc :=
 ({s with H:=Ye s.H (Zo x (opM s.P m x).A) (opM s.P m x).S (Zo x (opM s.P m x).R)},vX x)
def zaN (s:za) (m:Int) (x:zc):za×zc :=
   if zoh s.L m s.P.Price s.P.Limit=true then
   if zbT s.H s.P.Most=true then ({s with L:=zdu s.L m s.P.Price,H:=uK s.H,T:=Uu s.T (wc (s.H.Objs.length+1))},setM x (opM s.P m x).R (wc (s.H.Objs.length+1)))
   else (s,vX x)
  else (s,{x with PC:=31})
def zfy (s:za) (m:Int) (x:zc):za×zc :=
   ({s with L:=(zgQ s.L m (zt8 s.L m s.P.Price s.P.Limit)).1},if (zgQ s.L m (zt8 s.L m s.P.Price s.P.Limit)).2=0 then {x with PC:=32,C:=zn7 s.P (zU s.P) x.Bin} else {x with PC:=0})
def zfT (s:za) (m:Int) (x:zc):za×zc :=
   ({s with M:=(zj s.M x.C).1},if (zj s.M x.C).2.Out=1 then {x with PC:=33,Bin:=(zj s.M x.C).2.X,C:=(zj s.M x.C).2}
   else if (zj s.M x.C).2.Out=2 then {x with PC:=0,C:=(zj s.M x.C).2} else {x with C:=(zj s.M x.C).2})
def zhA (s:za) (m:Int) (x:zc):za×zc :=
 ({s with Bins:=s.Bins.set x.Bin.toNat []},{x with Batch:=ZS s x.Bin,PC:=34,C:=XD s.P (zD s.P) x.Bin})
def zeV (s:za) (m:Int) (x:zc):za×zc :=
   ({s with M:=(zj s.M x.C).1},if (zj s.M x.C).2.Out=1 then {x with C:=(zj s.M x.C).2,Bin:=0,PC:=35} else {x with C:=(zj s.M x.C).2})
def zfF (s:za) (m:Int) (x:zc):za×zc :=
 (s,match x.Batch with | []=>{x with PC:=0} | o::l=>{x with PC:=36,Obj:=o,Slot:=0,Batch:=l})
def zfn (s:za) (m:Int) (x:zc):za×zc :=
   (s,if zM s.H x.Obj x.Slot=0 then {x with Slot:=wc (x.Slot+1),PC:=onM s (wc (x.Slot+1))} else {x with Slot:=wc (x.Slot+1),PC:=37,G:=Yw 3 (zM s.H x.Obj x.Slot) m})
def zaE (s:za) (m:Int) (x:zc):za×zc :=
 ((zp s x.G).1,if (zp s x.G).2.Out=1 then {x with G:=(zp s x.G).2,PC:=onM s x.Slot} else {x with G:=(zp s x.G).2})
def zhF (s:za) (m:Int) (x:zc):za×zc :=
 ({s with T:=wR s.T x.Obj,L:=UP s.L m},{x with PC:=39})
def zhd (s:za) (m:Int) (x:zc):za×zc :=
 ({s with Work:=wc (s.Work-1)},{x with Obj:=0,PC:=35})
def zo (s:za) (m:Int) (x:zc):za×zc :=
 if x.PC=0 then mu0 s m x
 else if x.PC=1 then mu1 s m x
 else if x.PC=2 then mu2 s m x
 else if x.PC=3 then mu3 s m x
 else if x.PC=10 then zht s m x
 else if x.PC=20 then zfr s m x
 else if x.PC=21 then zfO s m x
 else if x.PC=22 then zfS s m x
 else if x.PC=23 then zfW s m x
 else if x.PC=30 then zaN s m x
 else if x.PC=31 then zfy s m x
 else if x.PC=32 then zfT s m x
 else if x.PC=33 then zhA s m x
 else if x.PC=34 then zeV s m x
 else if x.PC=35 then zfF s m x
 else if x.PC=36 then zfn s m x
 else if x.PC=37 then zaE s m x
 else if x.PC=38 then zhF s m x
 else if x.PC=39 then zhd s m x
 else (s,x)
def yU (s:za) (m:Int):za :=
 if s.Done=true∨m<1∨(s.Ms.length:Int)<m then s
 else match s.Ms[(m-1).toNat]? with
  | some x=>{(zo s m x).1 with Ms:=s.Ms.set (m-1).toNat (zo s m x).2}
  | none=>s
def znO (p:zb) (m:Int):Nat:=(p.Regs.getD (m-1).toNat []).length
structure XOk (p:zb) (nb:Nat) (m:Int) (x:zc):Prop where
 pc:(0≤x.PC∧x.PC≤3)∨x.PC=10∨(20≤x.PC∧x.PC≤23)∨(30≤x.PC∧x.PC≤39)
 regs:x.Regs.length=znO p m
 ip:0≤x.IP∧x.IP≤((Xg p m).length:Int)
 op:(10≤x.PC∧x.PC≤30)∨((x.PC=1∨x.PC=3)∧x.Ret=22)→x.IP<((Xg p m).length:Int)
 ret:x.PC=1∨x.PC=3→x.Ret=2∨x.Ret=22
 c32:x.PC=32→zts p nb (zU p) x.C
 b33:x.PC=33→1≤x.Bin∧x.Bin<nb
 c34:x.PC=34→zqw p nb (zD p) x.C
 bin:x.PC≠33→x.PC≠34→x.Bin=0
 g:x.PC=3∨x.PC=37→MOk p nb x.G∧(x.G.PC=5→x.G.C.Out≠1)∧x.G.Mode≠1
 buf:(x.Buf.length:Int)≤p.Buf
theorem XOk.move {p:zb} {nb:Nat} {m:Int} {x y:zc} (X:XOk p nb m x) (h:x.PC≠33∧x.PC≠34) (pc:y.PC=0∨y.PC=2∨y.PC=10∨(20≤y.PC∧y.PC≤23)∨y.PC=30∨y.PC=31∨y.PC=35∨y.PC=36∨y.PC=38∨y.PC=39)
  (regs:y.Regs.length=x.Regs.length) (bin:y.Bin=x.Bin) (buf:(y.Buf.length:Int)≤p.Buf) (ip:0≤y.IP∧y.IP≤((Xg p m).length:Int)) (op:10≤y.PC∧y.PC≤30→y.IP<((Xg p m).length:Int)):XOk p nb m y :=
 ⟨by omega,regs.trans X.regs,ip,fun e=>op (by omega),fun e=>by omega,fun e=>by omega,fun e=>by omega,fun e=>by omega,fun _ _=>bin.trans (X.bin h.1 h.2),fun e=>by omega,buf⟩
theorem zdj (s:za) (i:Int):onM s i=36∨onM s i=38:=by unfold onM;split<;>simp
theorem XOk.next {p:zb} {nb:Nat} {m:Int} {x:zc} (hp:((Xg p m).length:Int)≤64) (X:XOk p nb m x) (h:x.PC≠33∧x.PC≠34) (hi:x.IP<((Xg p m).length:Int)):XOk p nb m (vX x):=by
 have:=X.ip
 have e:wc (x.IP+1)=x.IP+1:=xm (by omega) (by omega)
 refine X.move h (.inl rfl) rfl rfl X.buf ?_ (fun h=>absurd h (by show ¬((10:Int)≤0∧(0:Int)≤30);decide))
 show 0≤wc (x.IP+1)∧wc (x.IP+1)≤_
 rw [e];omega
theorem XOk.set {p:zb} {nb:Nat} {m:Int} {x:zc} (hp:((Xg p m).length:Int)≤64) (X:XOk p nb m x) (h:x.PC≠33∧x.PC≠34) (hi:x.IP<((Xg p m).length:Int)) (r v:Int):XOk p nb m (setM x r v):=by
 have:=X.ip
 have e:wc (x.IP+1)=x.IP+1:=xm (by omega) (by omega)
 refine X.move h (.inl rfl) (by simp [setM]) rfl X.buf ?_ (fun h=>absurd h (by show ¬((10:Int)≤0∧(0:Int)≤30);decide))
 show 0≤wc (x.IP+1)∧wc (x.IP+1)≤_
 rw [e];omega
theorem wH {motive:za×zc→Prop} (s:za) (m:Int) (x:zc) (h0:x.PC=0→motive (mu0 s m x)) (h1:x.PC=1→motive (mu1 s m x)) (h2:x.PC=2→motive (mu2 s m x)) (h3:x.PC=3→motive (mu3 s m x)) (h10:x.PC=10→motive (zht s m x)) (h20:x.PC=20→motive (zfr s m x)) (h21:x.PC=21→motive (zfO s m x)) (h22:x.PC=22→motive (zfS s m x)) (h23:x.PC=23→motive (zfW s m x)) (h30:x.PC=30→motive (zaN s m x)) (h31:x.PC=31→motive (zfy s m x)) (h32:x.PC=32→motive (zfT s m x)) (h33:x.PC=33→motive (zhA s m x)) (h34:x.PC=34→motive (zeV s m x)) (h35:x.PC=35→motive (zfF s m x)) (h36:x.PC=36→motive (zfn s m x)) (h37:x.PC=37→motive (zaE s m x)) (h38:x.PC=38→motive (zhF s m x)) (h39:x.PC=39→motive (zhd s m x)) (hn:motive (s,x)):motive (zo s m x):=by
 unfold zo
 by_cases c0:x.PC=0
 ·rw [if_pos c0];exact h0 c0
 rw [if_neg c0]
 by_cases c1:x.PC=1
 ·rw [if_pos c1];exact h1 c1
 rw [if_neg c1]
 by_cases c2:x.PC=2
 ·rw [if_pos c2];exact h2 c2
 rw [if_neg c2]
 by_cases c3:x.PC=3
 ·rw [if_pos c3];exact h3 c3
 rw [if_neg c3]
 by_cases c10:x.PC=10
 ·rw [if_pos c10];exact h10 c10
 rw [if_neg c10]
 by_cases c20:x.PC=20
 ·rw [if_pos c20];exact h20 c20
 rw [if_neg c20]
 by_cases c21:x.PC=21
 ·rw [if_pos c21];exact h21 c21
 rw [if_neg c21]
 by_cases c22:x.PC=22
 ·rw [if_pos c22];exact h22 c22
 rw [if_neg c22]
 by_cases c23:x.PC=23
 ·rw [if_pos c23];exact h23 c23
 rw [if_neg c23]
 by_cases c30:x.PC=30
 ·rw [if_pos c30];exact h30 c30
 rw [if_neg c30]
 by_cases c31:x.PC=31
 ·rw [if_pos c31];exact h31 c31
 rw [if_neg c31]
 by_cases c32:x.PC=32
 ·rw [if_pos c32];exact h32 c32
 rw [if_neg c32]
 by_cases c33:x.PC=33
 ·rw [if_pos c33];exact h33 c33
 rw [if_neg c33]
 by_cases c34:x.PC=34
 ·rw [if_pos c34];exact h34 c34
 rw [if_neg c34]
 by_cases c35:x.PC=35
 ·rw [if_pos c35];exact h35 c35
 rw [if_neg c35]
 by_cases c36:x.PC=36
 ·rw [if_pos c36];exact h36 c36
 rw [if_neg c36]
 by_cases c37:x.PC=37
 ·rw [if_pos c37];exact h37 c37
 rw [if_neg c37]
 by_cases c38:x.PC=38
 ·rw [if_pos c38];exact h38 c38
 rw [if_neg c38]
 by_cases c39:x.PC=39
 ·rw [if_pos c39];exact h39 c39
 rw [if_neg c39]
 exact hn
theorem zu6 {p:zb} {nb:Nat} {s:za} {m:Int} {x:zc} (h:zC p) (hp:((Xg p m).length:Int)≤64) (S:SOk p nb s) (X:XOk p nb m x):SOk p nb (zo s m x).1∧XOk p nb m (zo s m x).2:=by
 have hP:=S.P
 have hip:=X.ip
 have hbuf:=X.buf
 have hb:=h.buf
 have nop: ∀y:Int,31≤y→¬(10≤y∧y≤30):=fun y h e=>by omega
 refine wH (motive:=fun r=>SOk p nb r.1∧XOk p nb m r.2) s m x ?_ ?_ ?_ ?_ ?_ ?_ ?_ ?_ ?_ ?_ ?_ ?_ ?_ ?_ ?_ ?_ ?_ ?_ ?_ ?_
 ·intro c
  unfold mu0
  refine ⟨S,?_⟩
  unfold zbG
  rw [hP]
  split
  ·exact ⟨.inl ⟨(by show (0:Int)≤1;decide),(by show (1:Int)≤3;decide)⟩,X.regs,X.ip,fun e=>by dsimp only at e;omega,fun _=> .inl rfl,fun e=>(by cases e),fun e=>(by cases e),fun e=>(by cases e),fun _ _=>X.bin (by omega) (by omega),fun e=>by dsimp only at e;omega,X.buf⟩
  split
  ·exact X
  rename_i hlt
  have hlt:x.IP<((Xg p m).length:Int):=by omega
  split
  ·exact X.move (by omega) (.inr (.inr (.inl rfl))) rfl rfl X.buf X.ip (fun _=>hlt)
  split
  ·exact X.move (by omega) (.inr (.inr (.inr (.inl ⟨by show (20:Int)≤20;decide,by show (20:Int)≤23;decide⟩)))) rfl rfl X.buf X.ip (fun _=>hlt)
  split
  ·exact X.move (by omega) (.inr (.inr (.inr (.inr (.inl rfl))))) rfl rfl X.buf X.ip (fun _=>hlt)
  split
  ·exact X.set hp (by omega) hlt _ _
  ·exact X.set hp (by omega) hlt _ _
 ·intro c
  unfold mu1
  refine ⟨S,?_⟩
  split
  ·rcases X.ret (.inl c) with e | e
   ·exact X.move (by omega) (.inr (.inl e)) rfl rfl X.buf X.ip (fun e2=>by dsimp only at e2;omega)
   ·exact X.move (by omega) (.inr (.inr (.inr (.inl (by dsimp only;omega))))) rfl rfl X.buf X.ip (fun e2=>X.op (.inr ⟨.inl c,e⟩))
  ·exact ⟨.inl ⟨(by show (0:Int)≤3;decide),(by show (3:Int)≤3;decide)⟩,X.regs,X.ip,fun e=>X.op (.inr ⟨.inl c,by dsimp only at e;omega⟩),fun _=>X.ret (.inl c),fun e=>(by cases e),fun e=>(by cases e),fun e=>(by cases e),fun _ _=>X.bin (by omega) (by omega),
    fun _=>⟨⟨fun e=>absurd e (by show ¬(2:Int)=1;decide),fun e=>(by cases e),fun e=>(by cases e),fun e=>(by cases e),fun e=>(by cases e)⟩,fun e=>(by cases e),by show (2:Int)≠1;decide⟩,by dsimp only;rw [List.length_take];omega⟩
 ·intro c
  unfold mu2
  exact ⟨S.keep rfl rfl rfl,X.move (by omega) (.inl rfl) rfl rfl X.buf X.ip (fun e=>absurd e (by show ¬((10:Int)≤0∧(0:Int)≤30);decide))⟩
 ·intro c
  unfold mu3
  obtain ⟨g1,g2,g3⟩:=X.g (.inl c)
  obtain ⟨r1,r2,r3⟩:=zkG h S g1 g2
  refine ⟨r1,?_⟩
  dsimp only
  split
  ·exact ⟨.inl ⟨(by show (0:Int)≤1;decide),(by show (1:Int)≤3;decide)⟩,X.regs,X.ip,fun e=>X.op (.inr ⟨.inr c,by dsimp only at e;omega⟩),fun _=>X.ret (.inr c),fun e=>(by cases e),fun e=>(by cases e),fun e=>(by cases e),fun _ _=>X.bin (by omega) (by omega),fun e=>by dsimp only at e;omega,X.buf⟩
  ·exact ⟨X.pc,X.regs,X.ip,X.op,X.ret,fun e=>by dsimp only at e;omega,fun e=>by dsimp only at e;omega,fun e=>by dsimp only at e;omega,X.bin,fun _=>⟨r2,r3,by rw [(Vf s x.G).2.2];exact g3⟩,X.buf⟩
 ·intro c
  unfold zht
  exact ⟨S,X.set hp (by omega) (X.op (.inl (by omega))) _ _⟩
 ·intro c
  unfold zfr
  refine ⟨S,?_⟩
  split
  ·exact X.next hp (by omega) (X.op (.inl (by omega)))
  ·exact X.move (by omega) (.inr (.inr (.inr (.inl ⟨by show (20:Int)≤21;decide,by show (21:Int)≤23;decide⟩)))) rfl rfl X.buf X.ip (fun _=>X.op (.inl (by omega)))
 ·intro c
  unfold zfO
  refine ⟨S,?_⟩
  split
  ·exact X.move (by omega) (.inr (.inr (.inr (.inl ⟨by show (20:Int)≤23;decide,by show (23:Int)≤23;decide⟩)))) rfl rfl X.buf X.ip (fun _=>X.op (.inl (by omega)))
  ·exact X.move (by omega) (.inr (.inr (.inr (.inl ⟨by show (20:Int)≤22;decide,by show (22:Int)≤23;decide⟩)))) rfl rfl X.buf X.ip (fun _=>X.op (.inl (by omega)))
 ·intro c
  unfold zfS
  have hi:=X.op (.inl (by omega))
  refine ⟨S,?_⟩
  rw [hP]
  split
  ·exact ⟨.inl ⟨(by show (0:Int)≤1;decide),(by show (1:Int)≤3;decide)⟩,X.regs,X.ip,fun e=>hi,fun _=> .inr rfl,fun e=>(by cases e),fun e=>(by cases e),fun e=>(by cases e),fun _ _=>X.bin (by omega) (by omega),fun e=>by dsimp only at e;omega,X.buf⟩
  ·exact X.move (by omega) (.inr (.inr (.inr (.inl ⟨by show (20:Int)≤23;decide,by show (23:Int)≤23;decide⟩)))) rfl rfl (by simp;omega) X.ip (fun _=>hi)
 ·intro c
  unfold zfW
  exact ⟨S.keep rfl rfl rfl,X.next hp (by omega) (X.op (.inl (by omega)))⟩
 ·intro c
  unfold zaN
  have hi:=X.op (.inl (by omega))
  split
  ·split
   ·exact ⟨S.keep rfl rfl rfl,X.set hp (by omega) hi _ _⟩
   ·exact ⟨S,X.next hp (by omega) hi⟩
  ·exact ⟨S,X.move (by omega) (.inr (.inr (.inr (.inr (.inr (.inl rfl)))))) rfl rfl X.buf X.ip (fun e=>absurd e (by show ¬((10:Int)≤31∧(31:Int)≤30);decide))⟩
 ·intro c
  unfold zfy
  refine ⟨S.keep rfl rfl rfl,?_⟩
  rw [hP]
  split
  ·exact ⟨.inr (.inr (.inr ⟨(by show (30:Int)≤32;decide),(by show (32:Int)≤39;decide)⟩)),X.regs,X.ip,fun e=>by dsimp only at e;omega,fun e=>by dsimp only at e;omega,fun _=>zsn,fun e=>(by cases e),fun e=>(by cases e),fun _ _=>X.bin (by omega) (by omega),fun e=>by dsimp only at e;omega,X.buf⟩
  ·exact X.move (by omega) (.inl rfl) rfl rfl X.buf X.ip (fun e=>absurd e (by show ¬((10:Int)≤0∧(0:Int)≤30);decide))
 ·intro c
  unfold zfT
  have C:=X.c32 c
  obtain ⟨b1,b2,b3,b4,b5,b6⟩:=zjs h S (.inl rfl) C.k C.h C.n C.v C.y C.o
  refine ⟨b1,?_⟩
  dsimp only
  split
  ·rename_i e1
   exact ⟨.inr (.inr (.inr ⟨(by show (30:Int)≤33;decide),(by show (33:Int)≤39;decide)⟩)),X.regs,X.ip,fun e=>by dsimp only at e;omega,fun e=>by dsimp only at e;omega,fun e=>(by cases e),fun _=>b6 e1,fun e=>(by cases e),fun e=>absurd rfl e,fun e=>by dsimp only at e;omega,X.buf⟩
  split
  ·exact X.move (by omega) (.inl rfl) rfl rfl X.buf X.ip (fun e=>absurd e (by show ¬((10:Int)≤0∧(0:Int)≤30);decide))
  ·rename_i e1 e2
   exact ⟨X.pc,X.regs,X.ip,X.op,X.ret,fun _=>⟨b2,b3,b4,(b5 e1 e2).1,(b5 e1 e2).2,e1⟩,fun e=>by dsimp only at e;omega,fun e=>by dsimp only at e;omega,X.bin,fun e=>by dsimp only at e;omega,X.buf⟩
 ·intro c
  unfold zhA
  have B:=X.b33 c
  refine ⟨S.keep rfl rfl (by simp),?_⟩
  rw [hP]
  exact ⟨.inr (.inr (.inr ⟨(by show (30:Int)≤34;decide),(by show (34:Int)≤39;decide)⟩)),X.regs,X.ip,fun e=>by dsimp only at e;omega,fun e=>by dsimp only at e;omega,fun e=>(by cases e),fun e=>(by cases e),fun _=>zqC B,fun _ e=>absurd rfl e,fun e=>by dsimp only at e;omega,X.buf⟩
 ·intro c
  unfold zeV
  have C:=X.c34 c
  obtain ⟨b1,b2,b3,b4,b5,b6⟩:=zok h S (.inr rfl) C.k C.h C.n C.x C.v
  refine ⟨b1,?_⟩
  dsimp only
  split
  ·exact ⟨.inr (.inr (.inr ⟨(by show (30:Int)≤35;decide),(by show (35:Int)≤39;decide)⟩)),X.regs,X.ip,fun e=>by dsimp only at e;omega,fun e=>by dsimp only at e;omega,fun e=>(by cases e),fun e=>(by cases e),fun e=>(by cases e),fun _ _=>rfl,fun e=>by dsimp only at e;omega,X.buf⟩
  ·exact ⟨X.pc,X.regs,X.ip,X.op,X.ret,fun e=>by dsimp only at e;omega,fun e=>by dsimp only at e;omega,fun _=>⟨b2,b3,b4,b5,b6⟩,X.bin,fun e=>by dsimp only at e;omega,X.buf⟩
 ·intro c
  unfold zfF
  refine ⟨S,?_⟩
  dsimp only
  split
  ·exact X.move (by omega) (.inl rfl) rfl rfl X.buf X.ip (fun e=>absurd e (by show ¬((10:Int)≤0∧(0:Int)≤30);decide))
  ·exact X.move (by omega) (by simp) rfl rfl X.buf X.ip (fun e=>absurd e (nop 36 (by omega)))
 ·intro c
  unfold zfn
  refine ⟨S,?_⟩
  dsimp only
  split
  ·rcases zdj s (wc (x.Slot+1)) with e | e<;>rw [e]
   ·exact X.move (by omega) (by simp) rfl rfl X.buf X.ip (fun e=>absurd e (nop 36 (by omega)))
   ·exact X.move (by omega) (by simp) rfl rfl X.buf X.ip (fun e=>absurd e (nop 38 (by omega)))
  ·exact ⟨.inr (.inr (.inr ⟨(by show (30:Int)≤37;decide),(by show (37:Int)≤39;decide)⟩)),X.regs,X.ip,fun e=>by dsimp only at e;omega,fun e=>by dsimp only at e;omega,fun e=>(by cases e),fun e=>(by cases e),fun e=>(by cases e),fun _ _=>X.bin (by omega) (by omega),
    fun _=>⟨⟨fun e=>absurd e (by show ¬(3:Int)=1;decide),fun e=>(by cases e),fun e=>(by cases e),fun e=>(by cases e),fun e=>(by cases e)⟩,fun e=>(by cases e),by show (3:Int)≠1;decide⟩,X.buf⟩
 ·intro c
  unfold zaE
  obtain ⟨g1,g2,g3⟩:=X.g (.inr c)
  obtain ⟨r1,r2,r3⟩:=zkG h S g1 g2
  refine ⟨r1,?_⟩
  dsimp only
  split
  ·rcases zdj s x.Slot with e | e<;>rw [e]
   ·exact X.move (by omega) (by simp) rfl rfl X.buf X.ip (fun e=>absurd e (nop 36 (by omega)))
   ·exact X.move (by omega) (by simp) rfl rfl X.buf X.ip (fun e=>absurd e (nop 38 (by omega)))
  ·exact ⟨X.pc,X.regs,X.ip,X.op,X.ret,fun e=>by dsimp only at e;omega,fun e=>by dsimp only at e;omega,fun e=>by dsimp only at e;omega,X.bin,fun _=>⟨r2,r3,by rw [(Vf s x.G).2.2];exact g3⟩,X.buf⟩
 ·intro c
  unfold zhF
  exact ⟨S.keep rfl rfl rfl,X.move (by omega) (by simp) rfl rfl X.buf X.ip (fun e=>absurd e (nop 39 (by omega)))⟩
 ·intro c
  unfold zhd
  exact ⟨S.keep rfl rfl rfl,X.move (by omega) (by simp) rfl rfl X.buf X.ip (fun e=>absurd e (nop 35 (by omega)))⟩
 ·exact ⟨S,X⟩
end
end Go.Pe.G
namespace Go.Pe.G
open Go.Pe
noncomputable section
structure HOk (p:zb) (h:zG):Prop where
 slots:h.Slots=p.H.Slots
 n:(p.H.Objs.length:Int)≤(h.Objs.length:Int)∧(h.Objs.length:Int)≤p.Most
 objs: ∀o∈h.Objs,(o.length:Int)=h.Slots∧∀v∈o,0≤v∧v≤(h.Objs.length:Int)
structure EOk (p:zb) (nb:Nat) (s:za):Prop where
 S:SOk p nb s
 wl:(s.Ws.length:Int)=p.Workers
 ml:(s.Ms.length:Int)=p.Mutators
 al:s.Acks.length=s.Ms.length
 W: ∀(i:Nat) x,s.Ws[i]? =some x→WOk p nb ((i:Int)+1) x
 X: ∀(i:Nat) x,s.Ms[i]? =some x→XOk p nb ((i:Int)+1) x
 H:HOk p s.H
 D:(0≤s.D.PC∧s.D.PC≤6)∧(s.D.PC=3→0≤s.D.I∧s.D.I<(s.Ms.length:Int))
 small:XC s
theorem zmy {p:zb} (h:zC p) (m:Int):((Xg p m).length:Int)≤64:=by
 unfold Xg
 have hr:=h.regs
 have hp:=h.progs
 rw [List.getD_eq_getElem?_getD]
 rcases Nat.lt_or_ge (m-1).toNat p.Progs.length with hl | hl
 ·rw [List.getElem?_eq_getElem hl]
  have hl2:(m-1).toNat<p.Regs.length:=by omega
  have:=(h.prog (m-1).toNat _ _ (List.getElem?_eq_getElem hl2) (List.getElem?_eq_getElem hl)).1
  show ((p.Progs[(m-1).toNat]).length:Int)≤64
  omega
 ·rw [List.getElem?_eq_none hl];show (([]:List zk).length:Int)≤64;simp
theorem zqp {p:zb} (h:zC p):EOk p (zQ p+1) (wi p):=by
 have hw:=h.wk
 have hm:=h.mt
 have hr:=h.regs
 have hn:=h.n
 have hmo:=h.most
 have hb:=h.buf
 refine ⟨zsx h,?_,?_,?_,fun i x hx=> ?_,fun i x hx=> ?_,⟨rfl,⟨Int.le_refl _,hmo.1⟩,h.objs⟩,⟨⟨by show (0:Int)≤0;decide,by show (0:Int)≤6;decide⟩,fun e=>absurd e (by show ¬(0:Int)=3;decide)⟩,zpl h⟩
 ·show (((List.range p.Workers.toNat).map (uW p)).length:Int)=_
  rw [List.length_map,List.length_range];omega
 ·show ((p.Regs.map ut).length:Int)=_
  rw [List.length_map];exact hr
 ·show (List.replicate p.Mutators.toNat (0:Int)).length=(p.Regs.map ut).length
  rw [List.length_replicate,List.length_map];omega
 ·have hx:((List.range p.Workers.toNat).map (uW p))[i]? =some x:=hx
  rw [List.getElem?_map] at hx
  rcases Nat.lt_or_ge i p.Workers.toNat with hl | hl
  ·rw [List.getElem?_range hl] at hx
   injection hx with hx
   subst hx
   exact ⟨⟨by show (0:Int)≤0;decide,by show (0:Int)≤9;decide⟩,by show 1≤(i:Int)+1∧(i:Int)+1≤p.Workers;omega,fun _=>⟨rfl,rfl,rfl⟩,fun e=>(by cases e),fun e=>(by cases e),fun e=>(by cases e),fun e=>(by cases e),fun e=>(by cases e)⟩
  ·rw [List.getElem?_eq_none (by rw [List.length_range];exact hl)] at hx;cases hx
 ·have hx:(p.Regs.map ut)[i]? =some x:=hx
  rw [List.getElem?_map] at hx
  cases hq:p.Regs[i]? with
  | none=>rw [hq] at hx;cases hx
  | some r =>
   rw [hq] at hx
   injection hx with hx
   subst hx
   refine ⟨.inl ⟨by show (0:Int)≤0;decide,by show (0:Int)≤3;decide⟩,?_,⟨by show (0:Int)≤0;decide,by show (0:Int)≤_;omega⟩,fun e=>absurd e ?_,fun e=>absurd e ?_,fun e=>(by cases e),fun e=>(by cases e),fun e=>(by cases e),fun _ _=>rfl,fun e=>absurd e ?_,by show (0:Int)≤p.Buf;omega⟩
   ·show r.length=znO p ((i:Int)+1)
    unfold znO
    rw [show ((i:Int)+1-1).toNat=i by omega,List.getD_eq_getElem?_getD,hq];rfl
   ·intro e;simp [ut] at e
   ·intro e;simp [ut] at e
   ·intro e;simp [ut] at e
theorem zlg {s:za} (h:XC s) (b:Int):(ZS s b).length<1000000:=by
 unfold ZS
 rw [List.getD_eq_getElem?_getD]
 cases hq:s.Bins[b.toNat]? with
 | none=>simp
 | some l=>exact h.bin l (List.mem_of_getElem? hq)
theorem zo1 (l:zq) (w:Int):(UP l w).Bal.length=l.Bal.length:=by unfold UP;split<;>simp
structure XL (s s':za):Prop where
 P:s'.P=s.P
 m:s'.M.length=s.M.length
 bl:s'.Bins.length=s.Bins.length
 b: ∀l∈s'.Bins,l∈s.Bins∨l.length≤1
 bal:s'.L.Bal.length=s.L.Bal.length
 ac:s'.Acks.length=s.Acks.length
 ws:s'.Ws=s.Ws
 ms:s'.Ms=s.Ms
 done:s'.Done=s.Done
 d:s'.D=s.D
theorem XL.refl (s:za):XL s s:=⟨rfl,rfl,rfl,fun l h=> .inl h,rfl,rfl,rfl,rfl,rfl,rfl⟩
theorem za5 (s:za) (g:zA):XL s (zp s g).1∧(zp s g).1.H=s.H:=by
 obtain ⟨m,b,t,w,f,e,h1,h2,h3,_,_⟩:=zej s g
 rw [e]
 exact ⟨⟨rfl,h1,h2,fun l hl=>(h3 l hl).imp id (fun e=>by rw [e];simp),rfl,rfl,rfl,rfl,rfl,rfl⟩,rfl⟩
theorem zsF {s:za} (b:Nat): ∀l∈s.Bins.set b [],l∈s.Bins∨l.length≤1:=fun l hl=>(List.mem_or_eq_of_mem_set hl).imp id (fun e=>by rw [e];simp)
theorem zpo (s:za) (w:Int) (x:ze):XL s (zh s w x).1∧(zh s w x).1.H=s.H:=by
 unfold zh
 split
 ·exact ⟨⟨rfl,(zg4 _ _).1,rfl,fun l h=> .inl h,rfl,rfl,rfl,rfl,rfl,rfl⟩,rfl⟩
 split
 ·exact ⟨⟨rfl,UG _ _,rfl,fun l h=> .inl h,rfl,rfl,rfl,rfl,rfl,rfl⟩,rfl⟩
 split
 ·exact ⟨⟨rfl,rfl,by simp,zsF _,rfl,rfl,rfl,rfl,rfl,rfl⟩,rfl⟩
 split
 ·exact ⟨⟨rfl,UG _ _,rfl,fun l h=> .inl h,rfl,rfl,rfl,rfl,rfl,rfl⟩,rfl⟩
 split
 ·exact ⟨XL.refl s,rfl⟩
 split
 ·exact za5 s x.G
 split
 ·exact ⟨XL.refl s,rfl⟩
 split
 ·exact ⟨⟨rfl,rfl,rfl,fun l h=> .inl h,zo1 _ _,rfl,rfl,rfl,rfl,rfl⟩,rfl⟩
 split
 ·exact ⟨⟨rfl,rfl,rfl,fun l h=> .inl h,rfl,rfl,rfl,rfl,rfl,rfl⟩,rfl⟩
 ·exact ⟨XL.refl s,rfl⟩
theorem zsc (p:zb) (w:Int) (x:ze):(vn p w x).Batch=x.Batch:=by unfold vn;split<;>rfl
theorem ztk {s:za} (h:XC s) (w:Int) {x:ze} (hx:x.Batch.length<1000000):(zh s w x).2.Batch.length<1000000:=by
 unfold zh
 split
 ·dsimp only
  split
  ·exact hx
  split
  ·rw [zsc];exact hx
  ·exact hx
 split
 ·dsimp only
  split
  ·exact hx
  split<;>exact hx
 split
 ·exact zlg h _
 split
 ·dsimp only
  split<;>exact hx
 split
 ·dsimp only
  split<;>exact hx
 split
 ·dsimp only
  split<;>exact hx
 split
 ·dsimp only
  cases hb:x.Batch with
  | nil=>show x.Batch.length<_;exact hx
  | cons o l=>rw [hb] at hx;show l.length<_;simp at hx;omega
 split
 ·exact hx
 split
 ·exact hx
 ·exact hx
theorem ztA (l:zq) (w p:Int):(zdu l w p).Bal.length=l.Bal.length:=by unfold zdu;simp
theorem zuC (l:zq) (w n:Int):(zgQ l w n).1.Bal.length=l.Bal.length:=by unfold zgQ;split<;>simp
theorem zvq (s:za) (m:Int) (x:zc):XL s (zo s m x).1:=by
 have q: ∀s':za,s'.P=s.P→s'.M=s.M→s'.Bins=s.Bins→s'.L.Bal.length=s.L.Bal.length→s'.Acks.length=s.Acks.length→s'.Ws=s.Ws→s'.Ms=s.Ms→s'.Done=s.Done→s'.D=s.D→XL s s' :=
  fun s' a b c d e f g h i=>⟨a,by rw [b],by rw [c],fun l hl=> .inl (c▸hl),d,e,f,g,h,i⟩
 refine wH (motive:=fun r=>XL s r.1) s m x ?_ ?_ ?_ ?_ ?_ ?_ ?_ ?_ ?_ ?_ ?_ ?_ ?_ ?_ ?_ ?_ ?_ ?_ ?_ ?_
 ·intro c
  unfold mu0
  exact XL.refl s
 ·intro c
  unfold mu1
  exact XL.refl s
 ·intro c
  unfold mu2
  exact q _ rfl rfl rfl rfl (by simp) rfl rfl rfl rfl
 ·intro c
  unfold mu3
  exact (za5 s x.G).1
 ·intro c
  unfold zht
  exact XL.refl s
 ·intro c
  unfold zfr
  exact XL.refl s
 ·intro c
  unfold zfO
  exact XL.refl s
 ·intro c
  unfold zfS
  exact XL.refl s
 ·intro c
  unfold zfW
  exact q _ rfl rfl rfl rfl rfl rfl rfl rfl rfl
 ·intro c
  unfold zaN
  split
  ·split
   ·exact q _ rfl rfl rfl (ztA _ _ _) rfl rfl rfl rfl rfl
   ·exact XL.refl s
  ·exact XL.refl s
 ·intro c
  unfold zfy
  exact q _ rfl rfl rfl (zuC _ _ _) rfl rfl rfl rfl rfl
 ·intro c
  unfold zfT
  exact ⟨rfl,UG _ _,rfl,fun l h=> .inl h,rfl,rfl,rfl,rfl,rfl,rfl⟩
 ·intro c
  unfold zhA
  exact ⟨rfl,rfl,by simp,zsF _,rfl,rfl,rfl,rfl,rfl,rfl⟩
 ·intro c
  unfold zeV
  exact ⟨rfl,UG _ _,rfl,fun l h=> .inl h,rfl,rfl,rfl,rfl,rfl,rfl⟩
 ·intro c
  unfold zfF
  exact XL.refl s
 ·intro c
  unfold zfn
  exact XL.refl s
 ·intro c
  unfold zaE
  exact (za5 s x.G).1
 ·intro c
  unfold zhF
  exact q _ rfl rfl rfl (zo1 _ _) rfl rfl rfl rfl rfl
 ·intro c
  unfold zhd
  exact q _ rfl rfl rfl rfl rfl rfl rfl rfl rfl
 ·exact XL.refl s
theorem HOk.sm {p:zb} (hp:zC p) {h:zG} (H:HOk p h):h.Objs.length<1000000∧∀x∈h.Objs,x.length<1000000:=by
 have h1:=H.n
 have h2:=hp.most
 have h3:=hp.n
 have h4:=hp.slots
 have h5:=H.slots
 exact ⟨by omega,fun x hx=>by have:=(H.objs x hx).1;omega⟩
theorem XC.turn {p:zb} (hp:zC p) {s s':za} (h:XC s) (T:XL s s') (H:HOk p s'.H):XC s':=by
 have hh:=H.sm hp
 refine ⟨by rw [T.m];exact h.m,by rw [T.bl];exact h.bins,fun x hx=> ?_,by rw [T.ac];exact h.acks,by rw [T.bal];exact h.bal,by rw [T.ws];exact h.ws,by rw [T.ws];exact h.w,by rw [T.ms];exact h.ms,by rw [T.ms];exact h.mu,hh.1,hh.2,by rw [T.P];exact h.pobjs,by rw [T.P];exact h.pobj,by rw [T.P];exact h.regs,by rw [T.P];exact h.reg,by rw [T.P];exact h.progs,by rw [T.P];exact h.prog,by rw [T.P];exact h.picks⟩
 rcases T.b x hx with h' | h'
 ·exact h.bin x h'
 ·omega
theorem XC.setW {s:za} (h:XC s) {i:Nat} {x:ze} (hx:x.Batch.length<1000000):XC {s with Ws:=s.Ws.set i x} :=
 ⟨h.m,h.bins,h.bin,h.acks,h.bal,by simp only [List.length_set];exact h.ws,fun y hy=>by
  rcases List.mem_or_eq_of_mem_set hy with hy | rfl
  ·exact h.w y hy
  ·exact hx,h.ms,h.mu,h.objs,h.obj,h.pobjs,h.pobj,h.regs,h.reg,h.progs,h.prog,h.picks⟩
theorem XC.setM {s:za} (h:XC s) {i:Nat} {x:zc} (hx:x.Regs.length<1000000∧x.Buf.length<1000000∧x.Batch.length<1000000):XC {s with Ms:=s.Ms.set i x} :=
 ⟨h.m,h.bins,h.bin,h.acks,h.bal,h.ws,h.w,by simp only [List.length_set];exact h.ms,fun y hy=>by
  rcases List.mem_or_eq_of_mem_set hy with hy | rfl
  ·exact h.mu y hy
  ·exact hx,h.objs,h.obj,h.pobjs,h.pobj,h.regs,h.reg,h.progs,h.prog,h.picks⟩
theorem zsq {α:Type} {l:List α} {i j:Nat} {x y:α} (h:(l.set i x)[j]? =some y):(j=i∧y=x)∨l[j]? =some y:=by
 rw [List.getElem?_set] at h
 split at h
 ·rename_i e
  split at h
  ·injection h with h;exact .inl ⟨e.symm,h.symm⟩
  ·cases h
 ·exact .inr h
theorem zi2 {p:zb} {nb:Nat} {s:za} (h:zC p) (E:EOk p nb s) (w:Int):EOk p nb (zE s w):=by
 unfold zE
 split
 ·exact E
 rename_i hc
 cases hx:s.Ws[(w-1).toNat]? with
 | none=>exact E
 | some x =>
  have hw1: ¬w<1:=fun e=>hc (.inr (.inl e))
  have hw2: ¬(s.Ws.length:Int)<w:=fun e=>hc (.inr (.inr e))
  have hwl:=E.wl
  have ei:(((w-1).toNat:Nat):Int)+1=w:=by omega
  have hW:=E.W _ x hx
  rw [ei] at hW
  obtain ⟨r1,r2⟩:=zsJ h (by omega) E.S hW
  obtain ⟨T,TH⟩:=zpo s w x
  have sm:XC (zh s w x).1:=E.small.turn h T (by rw [TH];exact E.H)
  have hws:(zh s w x).1.Ws=s.Ws:=T.ws
  refine ⟨r1.keep rfl rfl rfl,?_,?_,?_,fun i y hy=> ?_,fun i y hy=> ?_,?_,?_,?_⟩
  ·show ((s.Ws.set _ _).length:Int)=_
   rw [List.length_set];exact hwl
  ·show ((zh s w x).1.Ms.length:Int)=_
   rw [T.ms];exact E.ml
  ·show (zh s w x).1.Acks.length=(zh s w x).1.Ms.length
   rw [T.ms,T.ac];exact E.al
  ·rcases zsq hy with ⟨rfl,rfl⟩ | hy
   ·rw [ei];exact r2
   ·exact E.W i y hy
  ·have hy:(zh s w x).1.Ms[i]? =some y:=hy
   rw [T.ms] at hy
   exact E.X i y hy
  ·show HOk p (zh s w x).1.H
   rw [TH];exact E.H
  ·show (0≤(zh s w x).1.D.PC∧(zh s w x).1.D.PC≤6)∧((zh s w x).1.D.PC=3→0≤(zh s w x).1.D.I∧(zh s w x).1.D.I<((zh s w x).1.Ms.length:Int))
   rw [T.d,T.ms];exact E.D
  ·have:=sm.setW (i:=(w-1).toNat) (ztk E.small w (E.small.w x (List.mem_of_getElem? hx)))
   rw [hws] at this
   exact this
theorem HOk.put {p:zb} {h:zG} (H:HOk p h) (o s v:Int):HOk p (Ye h o s v):=by
 unfold Ye
 split
 ·rename_i c
  obtain ⟨c1,c2,c3⟩:=c
  unfold yZ at c1
  simp only [Bool.and_eq_true,decide_eq_true_eq] at c1
  refine ⟨H.slots,by simp only [List.length_set];exact H.n,fun l hl=> ?_⟩
  simp only [List.length_set]
  rcases List.mem_or_eq_of_mem_set hl with hl | rfl
  ·exact H.objs l hl
  ·have hm:yw h o∈h.Objs:=by
    unfold yw
    rw [List.getD_eq_getElem?_getD,List.getElem?_eq_getElem (show (o-1).toNat<h.Objs.length by omega)]
    exact List.getElem_mem _
   obtain ⟨a,b⟩:=H.objs _ hm
   refine ⟨by rw [List.length_set];exact a,fun y hy=> ?_⟩
   rcases List.mem_or_eq_of_mem_set hy with hy | rfl
   ·exact b y hy
   ·exact ⟨c2,c3⟩
 ·exact H
theorem HOk.alloc {p:zb} (hp:zC p) {h:zG} (H:HOk p h) (hr:zbT h p.Most=true):HOk p (uK h):=by
 unfold zbT at hr
 simp only [Bool.and_eq_true,decide_eq_true_eq] at hr
 have hs:=hp.slots
 have hsl:=H.slots
 have hn:=H.n
 unfold uK
 refine ⟨H.slots,by simp only [List.length_append,List.length_singleton];omega,fun l hl=> ?_⟩
 simp only [List.length_append,List.length_singleton]
 rcases List.mem_append.1 hl with hl | hl
 ·obtain ⟨a,b⟩:=H.objs l hl
  exact ⟨a,fun v hv=>by have:=b v hv;omega⟩
 ·rw [List.mem_singleton.1 hl]
  refine ⟨by rw [List.length_replicate];omega,fun v hv=> ?_⟩
  rw [(List.mem_replicate.1 hv).2];omega
theorem zxZ {p:zb} (hp:zC p) {s:za} (hP:s.P=p) (H:HOk p s.H) (m:Int) (x:zc):HOk p (zo s m x).1.H:=by
 refine wH (motive:=fun r=>HOk p r.1.H) s m x ?_ ?_ ?_ ?_ ?_ ?_ ?_ ?_ ?_ ?_ ?_ ?_ ?_ ?_ ?_ ?_ ?_ ?_ ?_ ?_
 ·intro c
  unfold mu0
  exact H
 ·intro c
  unfold mu1
  exact H
 ·intro c
  unfold mu2
  exact H
 ·intro c
  unfold mu3
  rw [(za5 s x.G).2];exact H
 ·intro c
  unfold zht
  exact H
 ·intro c
  unfold zfr
  exact H
 ·intro c
  unfold zfO
  exact H
 ·intro c
  unfold zfS
  exact H
 ·intro c
  unfold zfW
  exact H.put _ _ _
 ·intro c
  unfold zaN
  split
  ·split
   ·rename_i hr
    rw [hP] at hr
    exact H.alloc hp hr
   ·exact H
  ·exact H
 ·intro c
  unfold zfy
  exact H
 ·intro c
  unfold zfT
  exact H
 ·intro c
  unfold zhA
  exact H
 ·intro c
  unfold zeV
  exact H
 ·intro c
  unfold zfF
  exact H
 ·intro c
  unfold zfn
  exact H
 ·intro c
  unfold zaE
  rw [(za5 s x.G).2];exact H
 ·intro c
  unfold zhF
  exact H
 ·intro c
  unfold zhd
  exact H
 ·exact H
theorem zqB (s:za) (m:Int) (x:zc):(zbG s m x).Batch=x.Batch:=by
 unfold zbG
 repeat' split
 all_goals rfl
theorem zuw {s:za} (h:XC s) (m:Int) {x:zc} (hx:x.Batch.length<1000000):(zo s m x).2.Batch.length<1000000:=by
 refine wH (motive:=fun r=>r.2.Batch.length<1000000) s m x ?_ ?_ ?_ ?_ ?_ ?_ ?_ ?_ ?_ ?_ ?_ ?_ ?_ ?_ ?_ ?_ ?_ ?_ ?_ ?_
 ·intro c
  unfold mu0
  dsimp only;rw [zqB];exact hx
 ·intro c
  unfold mu1
  dsimp only;split<;>exact hx
 ·intro c
  unfold mu2
  exact hx
 ·intro c
  unfold mu3
  dsimp only;split<;>exact hx
 ·intro c
  unfold zht
  exact hx
 ·intro c
  unfold zfr
  dsimp only;split<;>exact hx
 ·intro c
  unfold zfO
  dsimp only;split<;>exact hx
 ·intro c
  unfold zfS
  dsimp only;split<;>exact hx
 ·intro c
  unfold zfW
  exact hx
 ·intro c
  unfold zaN
  split
  ·split<;>exact hx
  ·exact hx
 ·intro c
  unfold zfy
  dsimp only;split<;>exact hx
 ·intro c
  unfold zfT
  dsimp only
  split
  ·exact hx
  split<;>exact hx
 ·intro c
  unfold zhA
  exact zlg h _
 ·intro c
  unfold zeV
  dsimp only;split<;>exact hx
 ·intro c
  unfold zfF
  dsimp only
  cases hb:x.Batch with
  | nil=>show ([]:List Int).length<1000000;simp
  | cons o l=>rw [hb] at hx;show l.length<_;simp at hx;omega
 ·intro c
  unfold zfn
  dsimp only;split<;>exact hx
 ·intro c
  unfold zaE
  dsimp only;split<;>exact hx
 ·intro c
  unfold zhF
  exact hx
 ·intro c
  unfold zhd
  exact hx
 ·exact hx
theorem zrY {p:zb} (h:zC p) (m:Int):znO p m<1000000:=by
 unfold znO
 rw [List.getD_eq_getElem?_getD]
 cases hq:p.Regs[(m-1).toNat]? with
 | none=>simp
 | some r=>have:=(h.reg r (List.mem_of_getElem? hq)).1;show r.length<_;omega
theorem zuv {p:zb} {nb:Nat} {s:za} (h:zC p) (E:EOk p nb s) (m:Int):EOk p nb (yU s m):=by
 unfold yU
 split
 ·exact E
 rename_i hc
 cases hx:s.Ms[(m-1).toNat]? with
 | none=>exact E
 | some x =>
  have hw1: ¬m<1:=fun e=>hc (.inr (.inl e))
  have hw2: ¬(s.Ms.length:Int)<m:=fun e=>hc (.inr (.inr e))
  have ei:(((m-1).toNat:Nat):Int)+1=m:=by omega
  have hX:=E.X _ x hx
  rw [ei] at hX
  obtain ⟨r1,r2⟩:=zu6 h (zmy h m) E.S hX
  have T:=zvq s m x
  have TH:=zxZ h E.S.P E.H m x
  have sm:XC (zo s m x).1:=E.small.turn h T TH
  have hms:(zo s m x).1.Ms=s.Ms:=T.ms
  have hb:=h.buf
  refine ⟨r1.keep rfl rfl rfl,?_,?_,?_,fun i y hy=> ?_,fun i y hy=> ?_,TH,?_,?_⟩
  ·show ((zo s m x).1.Ws.length:Int)=_
   rw [T.ws];exact E.wl
  ·show ((s.Ms.set _ _).length:Int)=_
   rw [List.length_set];exact E.ml
  ·show (zo s m x).1.Acks.length=(s.Ms.set _ _).length
   rw [List.length_set,T.ac];exact E.al
  ·have hy:(zo s m x).1.Ws[i]? =some y:=hy
   rw [T.ws] at hy
   exact E.W i y hy
  ·rcases zsq hy with ⟨rfl,rfl⟩ | hy
   ·rw [ei];exact r2
   ·exact E.X i y hy
  ·show (0≤(zo s m x).1.D.PC∧(zo s m x).1.D.PC≤6)∧((zo s m x).1.D.PC=3→0≤(zo s m x).1.D.I∧(zo s m x).1.D.I<((s.Ms.set _ _).length:Int))
   rw [T.d,List.length_set];exact E.D
  ·have q:=E.small.mu x (List.mem_of_getElem? hx)
   have q1:=r2.regs
   have q2:=r2.buf
   have q3:=zrY h m
   have:=sm.setM (i:=(m-1).toNat) (x:=(zo s m x).2) ⟨by omega,by omega,zuw E.small m q.2.2⟩
   rw [hms] at this
   exact this
end
end Go.Pe.G
namespace Go.Pe.G
open Go.Pe
noncomputable section
theorem zwE (t:zn) (o:Int):zj8 t o=some (xk t o,()):=by
 rw [zqK,zou,Option.bind_some]
 show (bif zP (t.Marks&&&t.Black) o then _ else _)=_
 unfold xk
 cases h:zP (t.Marks&&&t.Black) o with
 | true=>rfl
 | false =>
  rw [cond_false,zou,Option.bind_some]
  show (bif zP t.Marks o then _ else _)=_
  cases h2:zP t.Marks o<;>rfl
theorem zui (t:zn) (o:Int):zc7 t o=some (wR t o,decide (xk t o=1),()):=by
 rw [zoI,zwE,Option.bind_some,yD]
 unfold wR
 by_cases h:xk t o=1
 ·rw [if_pos h,if_pos h,zkL,Option.bind_some,decide_eq_true h]
 ·rw [if_neg h,if_neg h,decide_eq_false h]
theorem zs2 {h:zG} (hl:h.Objs.length<1000000) (o s:Int):UZ h o s=some (yZ h o s,()):=by
 rw [zi3]
 simp only [zw]
 unfold yZ
 by_cases h1:1≤o
 ·rw [if_pos h1]
  by_cases h2:o≤(h.Objs.length:Int)
  ·rw [if_pos h2]
   by_cases h3:0≤s
   ·have e:=List.getElem?_eq_getElem (show (o-1).toNat<h.Objs.length by omega)
    rw [if_pos h3,yW (a:=o-1) (by omega) (by omega),Vt (by omega),e,Option.bind_some,decide_eq_true h1,decide_eq_true h2,decide_eq_true h3]
    unfold yw
    rw [List.getD_eq_getElem?_getD,e];rfl
   ·rw [if_neg h3,decide_eq_false h3,Bool.and_false];rfl
  ·rw [if_neg h2,decide_eq_false h2,Bool.and_false];rfl
 ·rw [if_neg h1,decide_eq_false h1];rfl
theorem zvF {h:zG} (hl:h.Objs.length<1000000) (o s:Int):ziu h o s=some (zM h o s,yZ h o s,()):=by
 rw [zpL,zs2 hl,Option.bind_some]
 unfold zM
 cases hs:yZ h o s with
 | false=>rfl
 | true =>
  have hs':=hs
  unfold yZ at hs'
  simp only [Bool.and_eq_true,decide_eq_true_eq] at hs'
  obtain ⟨⟨⟨h1,h2⟩,h3⟩,h4⟩:=hs'
  have e:=List.getElem?_eq_getElem (show (o-1).toNat<h.Objs.length by omega)
  have es:yw h o=h.Objs[(o-1).toNat]'(by omega):=by unfold yw;rw [List.getD_eq_getElem?_getD,e];rfl
  rw [es] at h4
  have e2:=List.getElem?_eq_getElem (show s.toNat<(h.Objs[(o-1).toNat]'(by omega)).length by omega)
  simp only [Bool.not_true,cond_false,if_true]
  rw [yW (a:=o-1) (by omega) (by omega),Vt (by omega),e,Option.bind_some,Vt h3,e2,Option.bind_some,es,List.getD_eq_getElem?_getD,e2];rfl
theorem zqe (l:zq) (who:Int):WI l who=some (decide (1≤who)&&decide (who≤(l.Bal.length:Int)),()):=by
 rw [zfw,zw]
 by_cases h1:1≤who
 ·rw [if_pos h1,decide_eq_true h1];rfl
 ·rw [if_neg h1,decide_eq_false h1];rfl
theorem zrO {l:zq} (hl:l.Bal.length<1000000) (who:Int):zay l who=some (UP l who,()):=by
 rw [zlG,un,zqe,Option.bind_some]
 unfold UP
 by_cases h:1≤who∧who≤(l.Bal.length:Int)
 ·rw [if_pos h,decide_eq_true h.1,decide_eq_true (show who≤((({l with Scanned:=wc (l.Scanned+1)}:zq).Bal.length:Nat):Int) from h.2)]
  have hn: ¬l.Bal.isEmpty=true:=by
   intro e
   have:l.Bal=[]:=by simpa using e
   rw [this] at h
   simp at h
   omega
  have hn:l.Bal.isEmpty=false:=by simpa using hn
  have e:=List.getElem?_eq_getElem (show (who-1).toNat<l.Bal.length by omega)
  rw [Bool.true_and,Bool.not_true,cond_false,WN]
  simp only [decide_true,cond_true,ze8 (n:=(l.Bal.length:Int)) (by omega) (by omega),Option.bind_some,List.length_replicate,Int.toNat_natCast,hn,cond_false,un]
  rw [xm (a:=who-1) (by omega) (by omega),VG (l:=l.Bal) (by omega) (by omega),Option.bind_some,e,Option.bind_some,zkn,Option.bind_some,Option.bind_some,Option.bind_some,un,List.getD_eq_getElem?_getD,e]
  rfl
 ·rw [if_neg h]
  have e:(decide (1≤who)&&decide (who≤((({l with Scanned:=wc (l.Scanned+1)}:zq).Bal.length:Nat):Int)))=false:=by
   by_cases h1:1≤who
   ·rw [decide_eq_true h1,decide_eq_false (fun e=>h ⟨h1,e⟩)];rfl
   ·rw [decide_eq_false h1];rfl
  rw [e];rfl
theorem zvJ {α:Type} (o:α) (l:List α):cut (o::l) 1 (((o::l).length:Nat):Int)=some l:=by
 unfold cut
 rw [decide_eq_true (show (0:Int)≤1 by decide),decide_eq_true (show (1:Int)≤(((o::l).length:Nat):Int) by simp;omega),decide_eq_true (Int.le_refl _)]
 simp
end
end Go.Pe.G
namespace Go.Pe.G
open Go.Pe
noncomputable section
theorem zvQ {m:List ze} (h:m.length<4294967296):wU m=some (m,()):=by
 rw [Wj,List.nil_append,vN h,Option.bind_some]
 cases m with
 | nil=>simp [zgn]
 | cons a l=>simp
theorem zv1 {n v:Int} (h:1≤v∧v≤n) (hn:n<1000000):w64 (v.tmod n+1)=Xx n v:=by
 unfold Xx
 rw [Int.tmod_eq_emod_of_nonneg (by omega)]
 by_cases hv:v<n
 ·rw [if_pos hv,Int.emod_eq_of_lt (by omega) hv,yW (by omega) (by omega)]
 ·have:v=n:=by omega
  rw [if_neg hv,this,Int.emod_self,yW (by omega) (by omega)]
  rfl
theorem zr2 {p:zb} (h:zC p) {s:za} (hP:s.P=p) (hl:(s.Ws.length:Int)=p.Workers) {x:ze} (hv:1≤x.Victim∧x.Victim≤p.Workers) (w:Int) :
  YG ⟨x,s,w⟩=some (⟨vn p w x,s,w⟩,()):=by
 have hw:=h.wk
 rw [zf4]
 simp only [zw,hl]
 rw [if_neg (show ¬p.Workers=0 by omega),zv1 hv (by omega)]
 unfold vn
 by_cases e:Xx p.Workers x.Victim=w
 ·rw [if_pos e,if_pos e,zbR,Option.bind_some,zbl]
  simp only [UO,Option.bind_some,Va,e,hP]
  rfl
 ·rw [if_neg e,if_neg e,zdw]
  simp only [zal,Option.bind_some,W4,hP]
theorem zj9 {p:zb} {s:za} (hP:s.P=p) (x:ze) (w:Int):vO ⟨x,s,w⟩=some (⟨X3 p w x,s,w⟩,()):=by
 rw [zfo,zdw]
 simp only [zal,Option.bind_some,W4,hP]
 rfl
theorem zpv (s:za) (x:ze) (w:Int):X7 ⟨x,s,w⟩=some (onW s x.Slot,()):=by
 rw [zjS,zw]
 unfold onW
 split<;>rfl
theorem zlq {s:za} (hm:s.M.length<4294967296) (x:ze) (w:Int):ug ⟨x,s,w⟩=some ((zj s.M x.C).2.Out,⟨{x with C:=(zj s.M x.C).2},{s with M:=(zj s.M x.C).1},w⟩,()):=by
 rw [zgc]
 simp only [ziR hm,Option.bind_some]
theorem zm5 {p:zb} (h:zC p) {s:za} (hP:s.P=p) (hm:s.M.length<4294967296) (hl:(s.Ws.length:Int)=p.Workers) {x:ze} (hv:1≤x.Victim∧x.Victim≤p.Workers) (hc:x.D.Cap<1000) {w:Int} (h01:x.PC=0∨x.PC=1) :
  XA ⟨x,s,w⟩=some (⟨(zh s w x).2,(zh s w x).1,w⟩,()):=by
 unfold zh
 rw [if_pos h01,zg6]
 simp only [ztx hm hc,Option.bind_some,zw]
 by_cases o1:(zL s.M x.D).2.Out=1
 ·rw [if_pos o1,if_pos o1,UU];rfl
 ·rw [if_neg o1,if_neg o1]
  have hk:=fun (x':ze) (e:x'.Victim=x.Victim)=>zr2 h (s:={s with M:=(zL s.M x.D).1}) hP hl (x:=x') (by rw [e];exact hv) w
  by_cases o4:(zL s.M x.D).2.Out=4
  ·rw [if_pos o4,if_pos (.inr o4),hk {x with D:=(zL s.M x.D).2} rfl,Option.bind_some,hP]
  ·rw [if_neg o4]
   by_cases o2:(zL s.M x.D).2.Out=2
   ·rw [if_pos o2,if_pos (.inl o2),hk {x with D:=(zL s.M x.D).2} rfl,Option.bind_some,hP]
   ·rw [if_neg o2,if_neg (by omega)]
theorem ztt {p:zb} {nb:Nat} (h:zC p) {s:za} {x:ze} {w:Int} (S:SOk p nb s) (W:WOk p nb w x) (hl:(s.Ws.length:Int)=p.Workers) (sm:XC s) :
  W6 ⟨x,s,w⟩=some (⟨(zh s w x).2,(zh s w x).1,w⟩,()):=by
 have hP:=S.P
 have hm:s.M.length<4294967296:=by have:=S.mem;omega
 have hc:=h.cap
 rw [zgd]
 simp only [zw]
 by_cases c0:x.PC=0
 ·rw [if_pos c0,if_pos c0,zm5 h hP hm hl W.vic (by have:=(W.d0 c0).2.2;omega) (.inl c0),Option.bind_some]
 rw [if_neg c0]
 by_cases c1:x.PC=1
 ·rw [if_pos c1,zm5 h hP hm hl W.vic (by have:=(W.d1 c1).2.2;omega) (.inr c1),Option.bind_some]
 rw [if_neg c1]
 unfold zh
 rw [if_neg (show ¬(x.PC=0∨x.PC=1) by omega)]
 by_cases c2:x.PC=2
 ·rw [if_pos c2,if_pos c2,zlq hm,Option.bind_some]
  simp only [zj9 (s:={s with M:=(zj s.M x.C).1}) hP]
  by_cases o1:(zj s.M x.C).2.Out=1
  ·rw [if_pos o1,if_pos o1]
  ·rw [if_neg o1,if_neg o1]
   by_cases o2:(zj s.M x.C).2.Out=2
   ·rw [if_pos o2,if_pos o2,Option.bind_some,hP]
   ·rw [if_neg o2,if_neg o2]
 rw [if_neg c2,if_neg c2]
 by_cases c3:x.PC=3
 ·have B:=W.b3 c3
  have hb:=S.bins
  have hnb:=S.nbk
  have e:=List.getElem?_eq_getElem (show x.Bin.toNat<s.Bins.length by omega)
  rw [if_pos c3,if_pos c3,zf1]
  dsimp only
  rw [Vt (by omega),e,Option.bind_some,zm9 (by omega),Option.bind_some,VG (l:=s.Bins) (by omega) (by omega),Option.bind_some,zcX,Option.bind_some,zbl]
  simp only [UO,Option.bind_some,Va]
  unfold ZS
  rw [List.getD_eq_getElem?_getD,e];rfl
 rw [if_neg c3,if_neg c3]
 by_cases c4:x.PC=4
 ·rw [if_pos c4,if_pos c4,zlq hm,Option.bind_some]
  dsimp only
  by_cases o1:(zj s.M x.C).2.Out=1
  ·rw [if_pos o1,if_pos o1]
  ·rw [if_neg o1,if_neg o1]
 rw [if_neg c4,if_neg c4]
 by_cases c5:x.PC=5
 ·rw [if_pos c5,if_pos c5,zf7]
  simp only [zvF sm.objs,Option.bind_some,zw,zpv,ztl,un]
  by_cases v:zM s.H x.Obj x.Slot=0
  ·rw [if_pos v,if_pos v];rfl
  ·rw [if_neg v,if_neg v];rfl
 rw [if_neg c5,if_neg c5]
 by_cases c6:x.PC=6
 ·obtain ⟨g1,g2,g3,g4⟩:=W.g6 c6
  rw [if_pos c6,if_pos c6]
  simp only [zuD (S.gok h g1),Option.bind_some,zpv]
  have eH:(zp s x.G).1.H=s.H:=(za5 s x.G).2
  by_cases o1:(zp s x.G).2.Out=1
  ·rw [if_pos o1,if_pos o1]
   unfold onW
   rw [eH]
  ·rw [if_neg o1,if_neg o1]
 rw [if_neg c6,if_neg c6]
 by_cases c7:x.PC=7
 ·rw [if_pos c7,if_pos c7]
  cases hb:x.Batch with
  | nil=>rw [if_pos (by simp),zj9 hP,Option.bind_some,hP]
  | cons o l =>
   rw [if_neg (by simp;omega),Vt (by omega)]
   simp only [Int.toNat_zero,List.getElem?_cons_zero,Option.bind_some,UU,hb]
   rw [zvJ];rfl
 rw [if_neg c7,if_neg c7]
 by_cases c8:x.PC=8
 ·rw [if_pos c8,if_pos c8]
  simp only [zui,Option.bind_some,zrO sm.bal]
 rw [if_neg c8,if_neg c8]
 by_cases c9:x.PC=9
 ·rw [if_pos c9,if_pos c9,un]
 ·rw [if_neg c9,if_neg c9]
theorem zcN {p:zb} {nb:Nat} {s:za} (h:zC p) (E:EOk p nb s) (w:Int):Yv s w=some (zE s w,()):=by
 rw [zmb]
 simp only [zw]
 unfold zE
 cases hd:s.Done with
 | true=>rw [cond_true,if_pos (.inl rfl)]
 | false =>
  rw [cond_false]
  by_cases h1:w<1
  ·rw [if_pos h1,if_pos (.inr (.inl h1))]
  rw [if_neg h1]
  by_cases h2:(s.Ws.length:Int)<w
  ·rw [if_pos h2,if_pos (.inr (.inr h2))]
  have hwl:=E.wl
  have hwk:=h.wk
  have e:=List.getElem?_eq_getElem (show (w-1).toNat<s.Ws.length by omega)
  have ei:(((w-1).toNat:Nat):Int)+1=w:=by omega
  have hW:=E.W _ _ e
  rw [ei] at hW
  obtain ⟨T,TH⟩:=zpo s w (s.Ws[(w-1).toNat]'(by omega))
  rw [if_neg h2,if_neg (fun e=>e.elim (fun h=>by cases h) (fun e=>e.elim h1 h2)),yW (a:=w-1) (by omega) (by omega),Vt (by omega),e,Option.bind_some,ztt h E.S hW hwl E.small,Option.bind_some]
  simp only [T.ws,zvQ (show s.Ws.length<4294967296 by omega),Option.bind_some,VG (l:=s.Ws) (show 0≤w-1 by omega) (show w-1<(s.Ws.length:Int) by omega)]
end
end Go.Pe.G
namespace Go.Pe.G
open Go.Pe
noncomputable section
def Zq (p:zb) (w:Int) (i:Nat):Int:=zF p w+2+((i%p.Cap.toNat:Nat):Int)
structure DQ (p:zb) (m:List (BitVec 64)) (w:Int) (t:Nat) (l:List Int) (c:Nat):Prop where
 top:ld m (zF p w)=BitVec.ofNat 64 t
 bot:ld m (zF p w+1)=BitVec.ofNat 64 (t+l.length-c)
 c1:c≤1
 t1:1≤t
 cap:l.length≤p.Cap.toNat
 small:t+l.length<4294967296
 cell: ∀(i:Nat) (hi:i<l.length),(ld m (Zq p w (t+i))).toInt=l[i]
theorem DQ.keep {p:zb} (h:zC p) {m m':List (BitVec 64)} {w:Int} {t c:Nat} {l:List Int} (D:DQ p m w t l c) (hm: ∀a,zF p w≤a→a<zF p w+p.Cap+2→ld m' a=ld m a):DQ p m' w t l c:=by
 have hc:=h.cap
 refine ⟨by rw [hm _ (by omega) (by omega)];exact D.top,by rw [hm _ (by omega) (by omega)];exact D.bot,D.c1,D.t1,D.cap,D.small,fun i hi=> ?_⟩
 have:=Nat.mod_lt (t+i) (show 0<p.Cap.toNat by omega)
 rw [hm _ (by unfold Zq;omega) (by unfold Zq;omega)]
 exact D.cell i hi
theorem Zt {n:Nat} (h:n<18446744073709551616):(BitVec.ofNat 64 n).toNat=n:=by rw [BitVec.toNat_ofNat];omega
theorem zgK {a b:Nat} (h:b≤a) (h2:a<18446744073709551616):BitVec.ofNat 64 a-BitVec.ofNat 64 b=BitVec.ofNat 64 (a-b):=by
 apply BitVec.eq_of_toNat_eq
 rw [BitVec.toNat_sub,Zt h2,Zt (by omega),Zt (by omega)]
 omega
theorem zgp {a b:Nat} (h2:a+b<18446744073709551616):BitVec.ofNat 64 a+BitVec.ofNat 64 b=BitVec.ofNat 64 (a+b):=by
 apply BitVec.eq_of_toNat_eq
 rw [BitVec.toNat_add,Zt (by omega),Zt (by omega),Zt (by omega)]
 omega
theorem zpj {a b:Nat} (h:a<18446744073709551616) (h2:b<18446744073709551616) (e:BitVec.ofNat 64 a=BitVec.ofNat 64 b):a=b:=by
 have:=congrArg BitVec.toNat e
 rwa [Zt h,Zt h2] at this
theorem zkw {a b:Nat} (h:a<4294967296) (h2:b<4294967296):0<(BitVec.ofNat 64 a-BitVec.ofNat 64 b).toInt↔b<a:=by
 rw [BitVec.toInt_eq_toNat_cond,BitVec.toNat_sub,Zt (by omega),Zt (by omega)]
 omega
theorem zwz {t i n c:Nat} (hi:i<n) (hn:n<t+c) (ht:t≤i) (e:i%c=n%c):False:=by
 have h1:=Nat.div_add_mod i c
 have h2:=Nat.div_add_mod n c
 have hc:0<c:=by omega
 rw [e] at h1
 have h3:c*(n/c)=c*(i/c)+(n-i):=by omega
 rcases Nat.lt_or_ge (i/c) (n/c) with h | h
 ·have:c*(i/c)+c≤c*(n/c):=by
   have:=Nat.mul_le_mul_left c h
   rw [Nat.succ_eq_add_one,Nat.mul_add,Nat.mul_one] at this
   exact this
  omega
 ·have:=Nat.mul_le_mul_left c h
  omega
theorem zgs {p:zb} (h:zC p) {d:zg} {w:Int} (hw:1≤w∧w≤p.Workers) (hb:d.Base=zF p w) (hc:d.Cap=p.Cap) {i:Nat} (hi:i<4294967296):Xd d (BitVec.ofNat 64 i)=Zq p w i:=by
 rw [(zmd h hw.1 hw.2 hb hc _).1,Zt (by omega),hb];rfl
structure DK (p:zb) (m:List (BitVec 64)) (w:Int) (t:Nat) (l:List Int) (c:Nat) (d:zg):Prop where
 kind:d.Kind=1
 base:d.Base=zF p w
 size:d.Cap=p.Cap
 out:d.Out=0
 c0:c=0
 pc:0≤d.PC∧d.PC≤3
 b:1≤d.PC→d.B=BitVec.ofNat 64 (t+l.length)
 r:2≤d.PC→l.length<p.Cap.toNat
 x:3≤d.PC→(ld m (Zq p w (t+l.length))).toInt=d.X
structure PK (p:zb) (m:List (BitVec 64)) (w:Int) (t:Nat) (l:List Int) (c:Nat) (d:zg):Prop where
 kind:d.Kind=2
 base:d.Base=zF p w
 size:d.Cap=p.Cap
 out:d.Out=0
 pc:0≤d.PC∧d.PC≤6
 c0:d.PC≤1→c=0
 c1:d.PC=2∨4≤d.PC→c=1
 b:d.PC=1∨d.PC=2∨4≤d.PC∨(d.PC=3∧d.T=d.B-1#64)→d.B=BitVec.ofNat 64 (t+l.length)
 c3:d.PC=3→d.T=d.B-1#64→c=1
 n3:d.PC=3→d.T≠d.B-1#64→c=0∧d.B=BitVec.ofNat 64 (t+l.length+1)∧t+l.length+1<4294967296∧l.length+1≤p.Cap.toNat
 t3:d.PC=3∨d.PC=4→d.T.toNat≤t
 t4:d.PC=4→d.T=d.B-1#64
 x4:d.PC=4→d.T.toNat=t→l=[d.X]
 e5:5≤d.PC→l=[]
def Xl (m:List (BitVec 64)) (d:zg):List Int :=
 if d.PC=3∧d.T≠d.B-1#64 then [(ld m (Xd d (d.B-1#64))).toInt] else if d.PC=6 then [d.X] else []
structure TK (p:zb) (m:List (BitVec 64)) (w:Int) (t:Nat) (l:List Int) (d:zg):Prop where
 kind:d.Kind=3
 base:d.Base=zF p w
 size:d.Cap=p.Cap
 out:d.Out=0
 pc:0≤d.PC∧d.PC≤3
 le:1≤d.PC→d.T.toNat≤t
 ne:2≤d.PC→d.T.toNat=t→l≠[]
 hd:d.PC=3→d.T.toNat=t→l.head? =some d.X
structure Dv (t:Nat) (l:List Int) (t':Nat) (l':List Int):Prop where
 le:t≤t'
 hd:t'=t→l≠[]→l'≠[]∧l'.head? =l.head?
theorem Dv.refl (t:Nat) (l:List Int):Dv t l t l:=⟨Nat.le_refl _,fun _ h=>⟨h,rfl⟩⟩
theorem TK.dv {p:zb} {m m':List (BitVec 64)} {w:Int} {t t':Nat} {l l':List Int} {d:zg} (K:TK p m w t l d) (V:Dv t l t' l'):TK p m' w t' l' d:=by
 have h1:=V.le
 refine ⟨K.kind,K.base,K.size,K.out,K.pc,fun h=>Nat.le_trans (K.le h) h1,fun h e=> ?_,fun h e=> ?_⟩
 ·have:=K.le (by omega)
  have et:t'=t:=by omega
  exact (V.hd et (K.ne h (by omega))).1
 ·have:=K.le (by omega)
  have et:t'=t:=by omega
  rw [(V.hd et (K.ne (by omega) (by omega))).2]
  exact K.hd h (by omega)
theorem zs9 {p:zb} (h:zC p) {m:List (BitVec 64)} {w:Int} {t c:Nat} {l:List Int} {d:zg} (hw:1≤w∧w≤p.Workers) (hlen:zU p≤m.length) (D:DQ p m w t l c) (K:TK p m w t l d) :
  ((zL m d).1=m∧(((zL m d).2.Out=0∧TK p m w t l (zL m d).2)∨(zL m d).2.Out=2∨(zL m d).2.Out=4)) ∨
  (∃x l',l=x::l'∧(zL m d).2.Out=1∧(zL m d).2.X=x∧DQ p (zL m d).1 w (t+1) l' c∧(∀a,a≠zF p w→ld (zL m d).1 a=ld m a)):=by
 have hc:=h.cap
 have hd:=uV h hw.1 hw.2
 have hf:=vT h
 have hpc:=K.pc
 have hsm:=D.small
 have ht1:=D.t1
 have hc1:=D.c1
 have eb:wc (d.Base+1)=zF p w+1:=by rw [K.base,xm (by omega) (by omega)]
 have k:=K.kind
 unfold zL
 rw [if_neg (by have:=K.out;omega),if_neg (by omega),if_neg (by omega),if_pos k]
 unfold Yc
 rw [if_neg (by omega),eb]
 by_cases c0:d.PC=0
 ·rw [if_pos c0]
  exact .inl ⟨rfl,.inl ⟨K.out,⟨k,K.base,K.size,K.out,⟨by dsimp only;omega,by dsimp only;omega⟩,fun _=>by dsimp only;rw [K.base,D.top,Zt (by omega)];exact Nat.le_refl _,fun e=>by dsimp only at e;omega,fun e=>by dsimp only at e;omega⟩⟩⟩
 rw [if_neg c0]
 have hT:=K.le (by omega)
 by_cases c1:d.PC=1
 ·rw [if_pos c1]
  left
  refine ⟨rfl,?_⟩
  by_cases hs:0<(ld m (zF p w+1)-d.T).toInt
  ·left
   dsimp only
   rw [if_pos hs]
   refine ⟨K.out,⟨k,K.base,K.size,K.out,⟨by dsimp only;omega,by dsimp only;omega⟩,fun _=>hT,fun _ e=> ?_,fun e=>by dsimp only at e;omega⟩⟩
   have e:d.T.toNat=t:=e
   have eT:d.T=BitVec.ofNat 64 t:=by apply BitVec.eq_of_toNat_eq;rw [Zt (by omega)];exact e
   rw [D.bot,eT] at hs
   have:=(zkw (by omega) (by omega)).1 hs
   intro el
   rw [el] at this
   simp at this
   omega
  ·right;left
   dsimp only
   rw [if_neg hs]
 rw [if_neg c1]
 by_cases c2:d.PC=2
 ·rw [if_pos c2]
  left
  refine ⟨rfl,.inl ⟨K.out,⟨k,K.base,K.size,K.out,⟨by dsimp only;omega,by dsimp only;omega⟩,fun _=>hT,fun _ e=>K.ne (by omega) e,fun _ e=> ?_⟩⟩⟩
  have e:d.T.toNat=t:=e
  have eT:d.T=BitVec.ofNat 64 t:=by apply BitVec.eq_of_toNat_eq;rw [Zt (by omega)];exact e
  have hn:=K.ne (by omega) e
  cases l with
  | nil=>exact absurd rfl hn
  | cons x l =>
   have:=D.cell 0 (by simp)
   dsimp only
   rw [eT,zgs h hw K.base K.size (by omega)]
   rw [Nat.add_zero] at this
   rw [this];rfl
 rw [if_neg c2]
 have c3:d.PC=3:=by omega
 by_cases hs:ld m d.Base=d.T
 ·right
  have eT:d.T.toNat=t:=by rw [←hs,K.base,D.top,Zt (by omega)]
  have eT':d.T=BitVec.ofNat 64 t:=by rw [←hs,K.base,D.top]
  have hx:=K.hd c3 eT
  have hn:=K.ne (by omega) eT
  have hsw:sw m d.Base d.T (d.T+1#64)=(st m d.Base (d.T+1#64),true):=by unfold sw;rw [if_pos ⟨by rw [K.base];omega,by rw [K.base];omega,hs⟩]
  rw [hsw]
  cases l with
  | nil=>exact absurd rfl hn
  | cons x l =>
   have hx:x=d.X:=by simpa using hx
   have hmod: ∀i,zF p w+2≤Zq p w i:=fun i=>by unfold Zq;omega
   have hlc:=D.cap
   rw [List.length_cons] at hlc hsm
   refine ⟨x,l,rfl,rfl,hx.symm,⟨?_,?_,hc1,by omega,by omega,by omega,fun i hi=> ?_⟩,fun a ha=> ?_⟩
   ·dsimp only
    rw [K.base,YI,if_pos ⟨rfl,by omega,by omega⟩,eT']
    exact zgp (by omega)
   ·dsimp only
    rw [K.base,yg (by omega),D.bot,List.length_cons]
    congr 1
    omega
   ·dsimp only
    have:=hmod (t+1+i)
    rw [K.base,yg (by omega)]
    have:=D.cell (i+1) (by simp;omega)
    rw [show t+(i+1)=t+1+i by omega] at this
    simpa using this
   ·dsimp only
    rw [K.base,yg (fun e=>ha e.symm)]
 ·left
  have hsw:sw m d.Base d.T (d.T+1#64)=(m,false):=by unfold sw;rw [if_neg (fun e=>hs e.2.2)]
  rw [hsw]
  exact ⟨rfl,.inr (.inr rfl)⟩
theorem vr {m:List (BitVec 64)} {d:zg} (h:d.PC≠3∨d.T=d.B-1#64) (h2:d.PC≠6):Xl m d=[]:=by
 unfold Xl
 rw [if_neg (fun e=>h.elim (fun f=>f e.1) (fun f=>e.2 f)),if_neg h2]
theorem zq3 {p:zb} (h:zC p) {m:List (BitVec 64)} {w:Int} {t c:Nat} {l:List Int} {d:zg} (hw:1≤w∧w≤p.Workers) (hlen:zU p≤m.length) (D:DQ p m w t l c) (K:PK p m w t l c d) :
  ∃t' l' c',DQ p (zL m d).1 w t' l' c'∧(∀a,a≠zF p w→a≠zF p w+1→ld (zL m d).1 a=ld m a)∧Dv t l t' l'∧t'+l'.length≤t+l.length ∧
   (((zL m d).2.Out=0∧PK p (zL m d).1 w t' l' c' (zL m d).2∧List.Perm (l'++Xl (zL m d).1 (zL m d).2) (l++Xl m d)) ∨
    ((zL m d).2.Out=1∧c'=0∧List.Perm (l'++[(zL m d).2.X]) (l++Xl m d)) ∨
    ((zL m d).2.Out=2∧c'=0∧l'=[]∧l=[]∧Xl m d=[])):=by
 have hc:=h.cap
 have hd:=uV h hw.1 hw.2
 have hf:=vT h
 have hpc:=K.pc
 have hsm:=D.small
 have ht1:=D.t1
 have hc1:=D.c1
 have eb:wc (d.Base+1)=zF p w+1:=by rw [K.base,xm (by omega) (by omega)]
 have k:=K.kind
 have one:(1#64:BitVec 64)=BitVec.ofNat 64 1:=rfl
 have hmod: ∀i,zF p w+2≤Zq p w i∧Zq p w i<zF p w+p.Cap+2:=fun i=>by
  have:=Nat.mod_lt i (show 0<p.Cap.toNat by omega)
  unfold Zq;omega
 have stb: ∀(c':Nat) (v:BitVec 64),c'≤1→v=BitVec.ofNat 64 (t+l.length-c')→DQ p (st m (zF p w+1) v) w t l c'∧(∀a,a≠zF p w→a≠zF p w+1→ld (st m (zF p w+1) v) a=ld m a):=by
  intro c' v h1 h2
  refine ⟨⟨by rw [yg (by omega)];exact D.top,by rw [YI,if_pos ⟨rfl,by omega,by omega⟩];exact h2,h1,ht1,D.cap,hsm,fun i hi=>by rw [yg (by have:=hmod (t+i);omega)];exact D.cell i hi⟩,fun a _ h2=>yg (fun e=>h2 e.symm)⟩
 unfold zL
 rw [if_neg (by have:=K.out;omega),if_neg (by omega),if_pos k]
 unfold Ua
 rw [if_neg (by omega),eb]
 by_cases p0:d.PC=0
 ·rw [if_pos p0]
  have hc0:=K.c0 (by omega)
  refine ⟨t,l,c,D,fun _ _ _=>rfl,Dv.refl _ _,Nat.le_refl _,.inl ⟨K.out,⟨k,K.base,K.size,K.out,⟨by dsimp only;omega,by dsimp only;omega⟩,fun _=>hc0,fun e=>by dsimp only at e;omega,fun _=> ?_,fun e=>by dsimp only at e;omega,fun e=>by dsimp only at e;omega,fun e=>by dsimp only at e;omega,fun e=>by dsimp only at e;omega,fun e=>by dsimp only at e;omega,fun e=>by dsimp only at e;omega⟩,?_⟩⟩
  ·dsimp only;rw [D.bot,hc0];rfl
  ·rw [vr (.inl (by dsimp only;omega)) (by dsimp only;omega),vr (.inl (by omega)) (by omega)]
 rw [if_neg p0]
 by_cases p1:d.PC=1
 ·rw [if_pos p1]
  have hB:=K.b (.inl p1)
  have eB:d.B-1#64=BitVec.ofNat 64 (t+l.length-1):=by rw [hB,one,zgK (by omega) (by omega)]
  obtain ⟨D',hm⟩:=stb 1 (d.B-1#64) (by omega) eB
  refine ⟨t,l,1,D',hm,Dv.refl _ _,Nat.le_refl _,.inl ⟨K.out,⟨k,K.base,K.size,K.out,⟨by dsimp only;omega,by dsimp only;omega⟩,fun e=>by dsimp only at e;omega,fun _=>rfl,fun _=>hB,fun e=>by dsimp only at e;omega,fun e=>by dsimp only at e;omega,fun e=>by dsimp only at e;omega,fun e=>by dsimp only at e;omega,fun e=>by dsimp only at e;omega,fun e=>by dsimp only at e;omega⟩,?_⟩⟩
  rw [vr (.inl (by dsimp only;omega)) (by dsimp only;omega),vr (.inl (by omega)) (by omega)]
 rw [if_neg p1]
 by_cases p2:d.PC=2
 ·rw [if_pos p2]
  have hB:=K.b (.inr (.inl p2))
  have hc':=K.c1 (.inl p2)
  have eB:d.B-1#64=BitVec.ofNat 64 (t+l.length-1):=by rw [hB,one,zgK (by omega) (by omega)]
  have eT:ld m d.Base=BitVec.ofNat 64 t:=by rw [K.base];exact D.top
  rw [vr (d:=d) (.inl (by omega)) (by omega),List.append_nil]
  by_cases hs:0<(ld m d.Base-(d.B-1#64)).toInt
  ·have hs':=hs
   rw [eT,eB] at hs'
   have:=(zkw (by omega) (by omega)).1 hs'
   have el:l=[]:=by cases l with | nil=>rfl | cons a l=>rw [List.length_cons] at this;omega
   rw [if_pos hs]
   refine ⟨t,l,c,D,fun _ _ _=>rfl,Dv.refl _ _,Nat.le_refl _,.inl ⟨K.out,⟨k,K.base,K.size,K.out,⟨by dsimp only;omega,by dsimp only;omega⟩,fun e=>by dsimp only at e;omega,fun _=>hc',fun _=>hB,fun e=>by dsimp only at e;omega,fun e=>by dsimp only at e;omega,fun e=>by dsimp only at e;omega,fun e=>by dsimp only at e;omega,fun e=>by dsimp only at e;omega,fun _=>el⟩,?_⟩⟩
   rw [vr (.inl (by dsimp only;omega)) (by dsimp only;omega),List.append_nil]
  ·have hs':=hs
   rw [eT,eB] at hs'
   have hle: ¬(t+l.length-1<t):=fun e=>hs' ((zkw (by omega) (by omega)).2 e)
   rw [if_neg hs]
   by_cases h1:l.length=1
   ·have e3:ld m d.Base=d.B-1#64:=by rw [eT,eB];congr 1;omega
    refine ⟨t,l,c,D,fun _ _ _=>rfl,Dv.refl _ _,Nat.le_refl _,.inl ⟨K.out,⟨k,K.base,K.size,K.out,⟨by dsimp only;omega,by dsimp only;omega⟩,fun e=>by dsimp only at e;omega,fun e=>by dsimp only at e;omega,fun _=>hB,fun _ _=>hc',fun _ e=>absurd e3 e,fun _=>by dsimp only;rw [eT,Zt (by omega)];exact Nat.le_refl _,fun e=>by dsimp only at e;omega,fun e=>by dsimp only at e;omega,fun e=>by dsimp only at e;omega⟩,?_⟩⟩
    rw [vr (.inr e3) (by dsimp only;omega),List.append_nil]
   ·-- the last one is the owner's
    have h2:2≤l.length:=by omega
    have e3:ld m d.Base≠d.B-1#64:=by
     rw [eT,eB]
     intro e
     have:=zpj (by omega) (by omega) e
     omega
    have hne:l≠[]:=fun e=>by rw [e] at h2;simp at h2
    have hdl:l.dropLast.length=l.length-1:=List.length_dropLast
    refine ⟨t,l.dropLast,0,⟨D.top,?_,by omega,ht1,by have:=D.cap;omega,by omega,fun i hi=> ?_⟩,fun _ _ _=>rfl,⟨Nat.le_refl _,fun _ _=>⟨fun e=> ?_,?_⟩⟩,by omega,.inl ⟨K.out,⟨k,K.base,K.size,K.out,⟨by dsimp only;omega,by dsimp only;omega⟩,fun e=>by dsimp only at e;omega,fun e=>by dsimp only at e;omega,fun e=> ?_,fun _ e=>absurd e e3,fun _ _=>⟨rfl,?_,by omega,by have:=D.cap;omega⟩,fun _=>by dsimp only;rw [eT,Zt (by omega)];exact Nat.le_refl _,fun e=>by dsimp only at e;omega,fun e=>by dsimp only at e;omega,fun e=>by dsimp only at e;omega⟩,?_⟩⟩
    ·rw [D.bot,hc',hdl];congr 1;omega
    ·rw [D.cell i (by omega)]
     exact (List.getElem_dropLast ..).symm
    ·have:=congrArg List.length e;rw [hdl] at this;simp at this;omega
    ·cases l with
     | nil=>exact absurd rfl hne
     | cons a l=>cases l with
      | nil=>simp at h2
      | cons b l=>rfl
    ·rcases e with e | e | e | ⟨_,e⟩
     ·dsimp only at e;omega
     ·dsimp only at e;omega
     ·dsimp only at e;omega
     ·exact absurd e e3
    ·dsimp only;rw [hB,hdl];congr 1;omega
    ·unfold Xl
     rw [if_pos ⟨rfl,e3⟩]
     dsimp only
     have ep:Xd {d with T:=ld m d.Base,PC:=3} (d.B-1#64)=Zq p w (t+(l.length-1)):=by
      rw [eB]
      have:=zgs h (d:={d with T:=ld m d.Base,PC:=3}) hw K.base K.size (i:=t+l.length-1) (by omega)
      rw [this];congr 1;omega
     rw [ep,D.cell (l.length-1) (by omega)]
     have:=List.dropLast_concat_getLast hne
     rw [List.getLast_eq_getElem] at this
     rw [this]
 rw [if_neg p2]
 by_cases p3:d.PC=3
 ·rw [if_pos p3]
  by_cases e3:d.T=d.B-1#64
  ·rw [if_pos e3]
   have hB:=K.b (.inr (.inr (.inr ⟨p3,e3⟩)))
   have hc':=K.c3 p3 e3
   have eB:d.B-1#64=BitVec.ofNat 64 (t+l.length-1):=by rw [hB,one,zgK (by omega) (by omega)]
   refine ⟨t,l,c,D,fun _ _ _=>rfl,Dv.refl _ _,Nat.le_refl _,.inl ⟨K.out,⟨k,K.base,K.size,K.out,⟨by dsimp only;omega,by dsimp only;omega⟩,fun e=>by dsimp only at e;omega,fun _=>hc',fun _=>hB,fun e=>by dsimp only at e;omega,fun e=>by dsimp only at e;omega,fun _=>K.t3 (.inl p3),fun _=>e3,fun _ e=> ?_,fun e=>by dsimp only at e;omega⟩,?_⟩⟩
   ·have e:d.T.toNat=t:=e
    rw [e3,eB,Zt (by omega)] at e
    have h1:l.length=1:=by omega
    have:=D.cell 0 (by omega)
    dsimp only
    rw [eB,zgs h hw K.base K.size (by omega),show t+l.length-1=t+0 by omega,this]
    match l,h1 with
    | [a],_=>rfl
   ·rw [vr (.inl (by dsimp only;omega)) (by dsimp only;omega),vr (.inr e3) (by omega)]
  ·rw [if_neg e3]
   obtain ⟨a1,a2,a3,a4⟩:=K.n3 p3 e3
   refine ⟨t,l,c,D,fun _ _ _=>rfl,Dv.refl _ _,Nat.le_refl _,.inr (.inl ⟨rfl,a1,?_⟩)⟩
   unfold Xl
   rw [if_pos ⟨p3,e3⟩]
 rw [if_neg p3]
 by_cases p4:d.PC=4
 ·rw [if_pos p4]
  have hB:=K.b (.inr (.inr (.inl (by omega))))
  have hc':=K.c1 (.inr (by omega))
  have e3:=K.t4 p4
  have ht:=K.t3 (.inr p4)
  have eB:d.B-1#64=BitVec.ofNat 64 (t+l.length-1):=by rw [hB,one,zgK (by omega) (by omega)]
  have eT:d.T.toNat=t+l.length-1:=by rw [e3,eB,Zt (by omega)]
  rw [vr (d:=d) (.inl (by omega)) (by omega),List.append_nil]
  by_cases hs:ld m d.Base=d.T
  ·have hsw:sw m d.Base d.T (d.T+1#64)=(st m d.Base (d.T+1#64),true):=by unfold sw;rw [if_pos ⟨by rw [K.base];omega,by rw [K.base];omega,hs⟩]
   have et:d.T.toNat=t:=by rw [←hs,K.base,D.top,Zt (by omega)]
   have el:=K.x4 p4 et
   rw [hsw]
   have eT':d.T=BitVec.ofNat 64 t:=by rw [←hs,K.base,D.top]
   have hl1:l.length=1:=by rw [el];rfl
   refine ⟨t+1,[],1,⟨?_,?_,by omega,by omega,by simp,by simp;omega,fun i hi=>by simp at hi⟩,fun a h1 _=> ?_,⟨by omega,fun e=>by omega⟩,by simp;omega,.inl ⟨K.out,⟨k,K.base,K.size,K.out,⟨by dsimp only;simp,by dsimp only;simp⟩,fun e=>by simp at e,fun _=>rfl,fun _=> ?_,fun e=>by simp at e,fun e=>by simp at e,fun e=>by simp at e,fun e=>by simp at e,fun e=>by simp at e,fun _=>rfl⟩,?_⟩⟩
   ·dsimp only
    rw [K.base,YI,if_pos ⟨rfl,by omega,by omega⟩,eT']
    exact zgp (by omega)
   ·dsimp only
    rw [K.base,yg (by omega),D.bot,hc',hl1];rfl
   ·dsimp only
    rw [K.base,yg (fun e=>h1 e.symm)]
   ·dsimp only;rw [hB,hl1];rfl
   ·unfold Xl
    rw [if_neg (fun e=>by simp at e),if_pos (by simp)]
    rw [el];exact List.Perm.refl _
  ·have hsw:sw m d.Base d.T (d.T+1#64)=(m,false):=by unfold sw;rw [if_neg (fun e=>hs e.2.2)]
   rw [hsw]
   have hne:d.T.toNat≠t:=fun e=>hs (by rw [K.base,D.top];apply BitVec.eq_of_toNat_eq;rw [Zt (by omega)];exact e.symm)
   have el:l=[]:=by cases l with | nil=>rfl | cons a l=>rw [List.length_cons] at eT;omega
   refine ⟨t,l,c,D,fun _ _ _=>rfl,Dv.refl _ _,Nat.le_refl _,.inl ⟨K.out,⟨k,K.base,K.size,K.out,⟨by dsimp only;simp,by dsimp only;simp⟩,fun e=>by simp at e,fun _=>hc',fun _=>hB,fun e=>by simp at e,fun e=>by simp at e,fun e=>by simp at e,fun e=>by simp at e,fun e=>by simp at e,fun _=>el⟩,?_⟩⟩
   rw [vr (.inl (by simp)) (by simp),List.append_nil]
 rw [if_neg p4]
 have hB:=K.b (.inr (.inr (.inl (by omega))))
 have el:=K.e5 (by omega)
 obtain ⟨D',hm⟩:=stb 0 d.B (by omega) (by rw [hB];rfl)
 by_cases p5:d.PC=5
 ·rw [if_pos p5]
  exact ⟨t,l,0,D',hm,Dv.refl _ _,Nat.le_refl _,.inr (.inr ⟨rfl,rfl,el,el,vr (.inl (by omega)) (by omega)⟩)⟩
 ·rw [if_neg p5]
  refine ⟨t,l,0,D',hm,Dv.refl _ _,Nat.le_refl _,.inr (.inl ⟨rfl,rfl,?_⟩)⟩
  unfold Xl
  rw [if_neg (fun e=>p3 e.1),if_pos (show d.PC=6 by omega)]
theorem PK.stolen {p:zb} {m m':List (BitVec 64)} (h:zC p) {w:Int} (hw:1≤w∧w≤p.Workers) {t c:Nat} {x:Int} {l:List Int} {d:zg} (K:PK p m w t (x::l) c d):PK p m' w (t+1) l c d:=by
 have e:t+(x::l).length=t+1+l.length:=by rw [List.length_cons];omega
 refine ⟨K.kind,K.base,K.size,K.out,K.pc,K.c0,K.c1,fun q=>by rw [←e];exact K.b q,K.c3,fun a b=> ?_,fun a=>Nat.le_succ_of_le (K.t3 a),K.t4,fun a b=> ?_,fun a=> ?_⟩
 ·have:=K.n3 a b
  rw [e] at this
  rw [List.length_cons] at this
  exact ⟨this.1,this.2.1,this.2.2.1,by omega⟩
 ·have:=K.t3 (.inr a);omega
 ·have:=K.e5 a;cases this
theorem DK.stolen {p:zb} {m m':List (BitVec 64)} {w:Int} {t c:Nat} {x:Int} {l:List Int} {d:zg} (K:DK p m w t (x::l) c d) (hm: ∀a,a≠zF p w→ld m' a=ld m a) (h:zC p):DK p m' w (t+1) l c d:=by
 have e:t+(x::l).length=t+1+l.length:=by rw [List.length_cons];omega
 refine ⟨K.kind,K.base,K.size,K.out,K.c0,K.pc,fun q=>by rw [←e];exact K.b q,fun q=>by have:=K.r q;rw [List.length_cons] at this;omega,fun q=> ?_⟩
 rw [←e,hm _ (by unfold Zq;omega)]
 exact K.x q
theorem PK.keep {p:zb} {m m':List (BitVec 64)} {w:Int} {t c:Nat} {l:List Int} {d:zg} (K:PK p m w t l c d):PK p m' w t l c d :=
 ⟨K.kind,K.base,K.size,K.out,K.pc,K.c0,K.c1,K.b,K.c3,K.n3,K.t3,K.t4,K.x4,K.e5⟩
theorem DK.keep {p:zb} (h:zC p) {m m':List (BitVec 64)} {w:Int} {t c:Nat} {l:List Int} {d:zg} (K:DK p m w t l c d) (hm: ∀a,zF p w+1<a→a<zF p w+p.Cap+2→ld m' a=ld m a):DK p m' w t l c d:=by
 have hc:=h.cap
 have:=Nat.mod_lt (t+l.length) (show 0<p.Cap.toNat by omega)
 exact ⟨K.kind,K.base,K.size,K.out,K.c0,K.pc,K.b,K.r,fun q=>by rw [hm _ (by unfold Zq;omega) (by unfold Zq;omega)];exact K.x q⟩
theorem zpH {p:zb} (h:zC p) {m:List (BitVec 64)} {w:Int} {t c:Nat} {l:List Int} {d:zg} (hw:1≤w∧w≤p.Workers) (hlen:zU p≤m.length) (D:DQ p m w t l c) (K:DK p m w t l c d) (hs:t+l.length+1<4294967296) (hX: -9223372036854775808≤d.X∧d.X<9223372036854775808) :
  (∀a,(a<zF p w∨zF p w+p.Cap+2≤a)→ld (yL m d).1 a=ld m a)∧(yL m d).2.X=d.X ∧
  (((yL m d).2.Out=0∧DQ p (yL m d).1 w t l 0∧DK p (yL m d).1 w t l 0 (yL m d).2) ∨
   ((yL m d).2.Out=3∧DQ p (yL m d).1 w t l 0) ∨
   ((yL m d).2.Out=1∧DQ p (yL m d).1 w t (l++[d.X]) 0)):=by
 have hc:=h.cap
 have hd:=uV h hw.1 hw.2
 have hf:=vT h
 have hmod: ∀i,zF p w+2≤Zq p w i∧Zq p w i<zF p w+p.Cap+2:=fun i=>by
  have:=Nat.mod_lt i (show 0<p.Cap.toNat by omega)
  unfold Zq;omega
 have hpc:=K.pc
 have c00:=K.c0
 subst c00
 have ht1:=D.t1
 have hsm:=D.small
 have eb:wc (d.Base+1)=zF p w+1:=by rw [K.base,xm (by omega) (by omega)]
 unfold yL
 rw [if_neg (by have:=K.out;omega),eb]
 by_cases c0:d.PC=0
 ·rw [if_pos c0]
  exact ⟨fun _ _=>rfl,rfl,.inl ⟨K.out,D,⟨K.kind,K.base,K.size,K.out,rfl,⟨by dsimp only;omega,by dsimp only;omega⟩,fun _=>D.bot,fun e=>by dsimp only at e;omega,fun e=>by dsimp only at e;omega⟩⟩⟩
 rw [if_neg c0]
 by_cases c1:d.PC=1
 ·rw [if_pos c1]
  refine ⟨fun _ _=>rfl,by dsimp only;split<;>rfl,?_⟩
  have hB:=K.b (by omega)
  have es:(uN d).toNat=p.Cap.toNat:=by
   unfold uN
   rw [K.size,if_neg (by omega),BitVec.toNat_ofInt]
   omega
  have ed:(d.B-ld m d.Base).toNat=l.length:=by
   rw [hB,K.base,D.top,BitVec.toNat_sub,Zt (by omega),Zt (by omega)]
   omega
  split
  ·right;left
   exact ⟨rfl,D⟩
  ·rename_i hlt
   left
   have hr:l.length<p.Cap.toNat:=by
    have: ¬(uN d).toNat≤(d.B-ld m d.Base).toNat:=fun e=>hlt (BitVec.le_def.2 e)
    omega
   exact ⟨K.out,D,⟨K.kind,K.base,K.size,K.out,rfl,⟨by dsimp only;omega,by dsimp only;omega⟩,fun _=>hB,fun _=>hr,fun e=>by dsimp only at e;omega⟩⟩
 rw [if_neg c1]
 have hB:=K.b (by omega)
 have hr:=K.r (by omega)
 by_cases c2:d.PC=2
 ·rw [if_pos c2]
  have ep:Xd d d.B=Zq p w (t+l.length):=by rw [hB];exact zgs h hw K.base K.size (by omega)
  rw [ep]
  have hm:=hmod (t+l.length)
  refine ⟨fun a ha=>yg (by omega),rfl,.inl ⟨K.out,⟨?_,?_,D.c1,ht1,D.cap,D.small,fun i hi=> ?_⟩,⟨K.kind,K.base,K.size,K.out,rfl,⟨by dsimp only;omega,by dsimp only;omega⟩,fun _=>hB,fun _=>hr,fun _=> ?_⟩⟩⟩
  ·dsimp only;rw [yg (by omega)];exact D.top
  ·dsimp only;rw [yg (by omega)];exact D.bot
  ·dsimp only
   rw [yg (fun e=>zwz (t:=t) (i:=t+i) (n:=t+l.length) (c:=p.Cap.toNat) (by omega) (by omega) (by omega) (by unfold Zq at e;omega))]
   exact D.cell i hi
  ·dsimp only
   rw [YI,if_pos ⟨rfl,by omega,by omega⟩,BitVec.toInt_ofInt,Int.bmod_def]
   omega
 ·rw [if_neg c2]
  have hx:=K.x (by omega)
  refine ⟨fun a ha=>yg (by omega),rfl,.inr (.inr ⟨rfl,⟨?_,?_,by omega,ht1,?_,?_,fun i hi=> ?_⟩⟩)⟩
  ·dsimp only;rw [yg (by omega)];exact D.top
  ·dsimp only
   rw [YI,if_pos ⟨rfl,by omega,by omega⟩,hB,List.length_append]
   exact zgp (by omega)
  ·rw [List.length_append];show l.length+1≤_;omega
  ·rw [List.length_append];show t+(l.length+1)<_;omega
  ·dsimp only
   have hi':i<l.length+1:=by rw [List.length_append] at hi;exact hi
   have hm:=hmod (t+i)
   rw [yg (by omega)]
   rcases Nat.lt_or_ge i l.length with g | g
   ·rw [List.getElem_append_left g];exact D.cell i g
   ·have:i=l.length:=by omega
    subst this
    rw [List.getElem_append_right (by omega)]
    simp only [Nat.sub_self,List.getElem_cons_zero]
    exact hx
end
end Go.Pe.G
namespace Go.Pe.G
open Go.Pe
noncomputable section
def xh (h:BitVec 64):Nat:=h.toNat/4294967296
theorem zmG (v:BitVec 64) {n:Int} (h:0≤n) (h2:n<4294967296):(yX v n).toNat=(v.toNat%4294967296)*4294967296+n.toNat:=by
 unfold yX
 have e3:(BitVec.ofInt 64 n).toNat&&&(4294967295#64).toNat=n.toNat:=by
  have:(BitVec.ofInt 64 n).toNat=n.toNat:=by rw [BitVec.toNat_ofInt];omega
  rw [this]
  exact (Nat.and_two_pow_sub_one_eq_mod n.toNat 32).trans (Nat.mod_eq_of_lt (by omega))
 rw [BitVec.toNat_or,BitVec.toNat_and,e3,BitVec.toNat_shiftLeft]
 have h2':v.toNat <<< 32%2 ^ 64=(v.toNat%4294967296) <<< 32:=by rw [Nat.shiftLeft_eq,Nat.shiftLeft_eq];omega
 rw [h2',←Nat.shiftLeft_add_eq_or_of_lt (show n.toNat<2 ^ 32 by omega),Nat.shiftLeft_eq]
theorem zqc (h:BitVec 64) {n:Int} (h1:0≤n) (h2:n<4294967296) (hv:xh h+1<4294967296):xh (yX ((h >>> 32)+1#64) n)=xh h+1:=by
 have e:((h >>> 32)+1#64).toNat=xh h+1:=by
  rw [BitVec.toNat_add,BitVec.toNat_ushiftRight,Nat.shiftRight_eq_div_pow]
  show (h.toNat/4294967296+1)%2 ^ 64=_
  unfold xh at hv ⊢
  omega
 unfold xh
 rw [zmG _ h1 h2,e]
 unfold xh at hv ⊢
 omega
def Chn (m:List (BitVec 64)) (N:Int) (nb:Nat):Int→List Int→Prop
 | h,[]=>h=0
 | h,x::l=>h=x∧1≤x∧x<nb∧Chn m N nb (ld m (N+x)).toInt l
theorem Chn.mem {m:List (BitVec 64)} {N:Int} {nb:Nat}: ∀ {l:List Int} {h:Int},Chn m N nb h l→∀x∈l,1≤x∧x<nb
 | y::l,h,c,x,hx=>by
  rcases List.mem_cons.1 hx with rfl | hx
  ·exact ⟨c.2.1,c.2.2.1⟩
  ·exact Chn.mem c.2.2.2 x hx
theorem Chn.st {m:List (BitVec 64)} {N:Int} {nb:Nat} {a:Int} {v:BitVec 64}: ∀ {l:List Int} {h:Int},Chn m N nb h l→(∀x∈l,a≠N+x)→Chn (st m a v) N nb h l
 | [],h,c,_=>c
 | y::l,h,c,hn=>⟨c.1,c.2.1,c.2.2.1,by
  rw [yg (hn y (by simp))]
  exact Chn.st c.2.2.2 (fun x hx=>hn x (List.mem_cons_of_mem _ hx))⟩
theorem Chn.head {m:List (BitVec 64)} {N:Int} {nb:Nat} {l:List Int} {h:Int} (c:Chn m N nb h l) (hh:h≠0): ∃t,l=h::t∧1≤h∧h<nb∧Chn m N nb (ld m (N+h)).toInt t:=by
 cases l with
 | nil=>exact absurd c hh
 | cons x t =>
  obtain ⟨rfl,h1,h2,h3⟩:=c
  exact ⟨t,rfl,h1,h2,h3⟩
theorem Chn.empty {m:List (BitVec 64)} {N:Int} {nb:Nat} {l:List Int} (c:Chn m N nb 0 l):l=[]:=by
 cases l with
 | nil=>rfl
 | cons x t=>have:=c.1;have:=c.2.1;omega
def zgO (nb:Nat):List Int:=(List.range (nb-1)).map (fun (i:Nat)=>(i:Int)+1)
theorem zlt (nb:Nat):(zgO nb).Nodup:=by
 unfold zgO
 rw [List.Nodup,List.pairwise_map]
 exact List.nodup_range.imp (fun h e=>h (by omega))
theorem zpd {nb:Nat} {x:Int}:x∈zgO nb↔1≤x∧x<nb:=by
 unfold zgO
 rw [List.mem_map]
 constructor
 ·rintro ⟨i,hi,rfl⟩
  have:=List.mem_range.1 hi
  omega
 ·rintro ⟨h1,h2⟩
  exact ⟨(x-1).toNat,List.mem_range.2 (by omega),by omega⟩
structure LI (p:zb) (nb:Nat) (m:List (BitVec 64)) (h1 h2:Int) (F E own:List Int):Prop where
 hs:(h1=zU p∧h2=zD p)∨(h1=zD p∧h2=zU p)
 cF:Chn m (zD p) nb (yo (ld m h1)) F
 cE:Chn m (zD p) nb (yo (ld m h2)) E
 all:List.Perm (F++E++own) (zgO nb)
 len:zD p+nb≤m.length
theorem LI.nodup {p:zb} {nb:Nat} {m:List (BitVec 64)} {h1 h2:Int} {F E own:List Int} (h:LI p nb m h1 h2 F E own):(F++E++own).Nodup:=h.all.nodup_iff.2 (zlt nb)
theorem LI.notF {p:zb} {nb:Nat} {m:List (BitVec 64)} {h1 h2:Int} {F E own:List Int} (h:LI p nb m h1 h2 F E own) {x:Int} (hx:x∈own):x∉F∧x∉E:=by
 have:=List.nodup_append.1 h.nodup
 exact ⟨fun e=>this.2.2 x (List.mem_append_left _ e) x hx rfl,fun e=>this.2.2 x (List.mem_append_right _ e) x hx rfl⟩
theorem LI.own_in {p:zb} {nb:Nat} {m:List (BitVec 64)} {h1 h2:Int} {F E own:List Int} (h:LI p nb m h1 h2 F E own) {x:Int} (hx:x∈own):1≤x∧x<nb:=zpd.1 (h.all.subset (List.mem_append_right _ hx))
structure CK (p:zb) (m:List (BitVec 64)) (c:zx):Prop where
 v:1≤c.PC→xh c.H≤xh (ld m c.Head)
 y:c.PC=2→c.Kind=2→ld m c.Head=c.H→c.Y=(ld m (zD p+yo c.H)).toInt
 l:c.PC=2→c.Kind=1→ld m (zD p+c.X)=BitVec.ofInt 64 (yo c.H)
structure Mv (p:zb) (nb:Nat) (X:List Int) (m m':List (BitVec 64)):Prop where
 hd: ∀h,h=zU p∨h=zD p→xh (ld m h)≤xh (ld m' h)∧(ld m' h=ld m h∨xh (ld m h)<xh (ld m' h))
 nx: ∀x:Int,1≤x→x<nb→x∉X→ld m' (zD p+x)=ld m (zD p+x)
theorem Mv.refl (p:zb) (nb:Nat) (X:List Int) (m:List (BitVec 64)):Mv p nb X m m:=⟨fun h _=>⟨Nat.le_refl _,.inl rfl⟩,fun _ _ _ _=>rfl⟩
theorem CK.mv {p:zb} {nb:Nat} {m m':List (BitVec 64)} {h1 h2:Int} {F E own X:List Int} {c:zx} (k:CK p m c) (L:LI p nb m h1 h2 F E own) (M:Mv p nb X m m') (hX: ∀x∈X,x∈own)
  (hh:c.Head=h1∨c.Head=h2) (hn:1≤c.PC→c.Kind=2→1≤yo c.H∧yo c.H<nb) (hx:c.Kind=1→1≤c.X∧c.X<nb∧c.X∉X):CK p m' c:=by
 obtain ⟨m1,m2⟩:=M.hd c.Head (by rcases L.hs with g | g<;>rcases hh with hh | hh<;>rw [hh]<;>simp [g])
 refine ⟨fun h=>Nat.le_trans (k.v h) m1,fun h2 hk e=> ?_,fun h2 hk=> ?_⟩
 ·have hv:=k.v (by omega)
  have e':ld m c.Head=c.H:=by
   rcases m2 with m2 | m2
   ·rw [←m2];exact e
   ·rw [e] at m2;omega
  obtain ⟨n1,n2⟩:=hn (by omega) hk
  rw [M.nx _ n1 n2 (fun hmem=> ?_)]
  ·exact k.y h2 hk e'
  ·obtain ⟨f1,f2⟩:=L.notF (hX _ hmem)
   rcases hh with hh | hh
   ·obtain ⟨t,ht,_⟩:=L.cF.head (by rw [←hh,e'];omega)
    rw [←hh,e'] at ht
    exact f1 (by rw [ht];simp)
   ·obtain ⟨t,ht,_⟩:=L.cE.head (by rw [←hh,e'];omega)
    rw [←hh,e'] at ht
    exact f2 (by rw [ht];simp)
 ·obtain ⟨x1,x2,x3⟩:=hx hk
  rw [M.nx _ x1 x2 x3]
  exact k.l h2 hk
theorem LI.swap {p:zb} {nb:Nat} {m:List (BitVec 64)} {h1 h2:Int} {F E own:List Int} (h:LI p nb m h1 h2 F E own):LI p nb m h2 h1 E F own :=
 ⟨h.hs.elim (fun g=> .inr ⟨g.2,g.1⟩) (fun g=> .inl ⟨g.2,g.1⟩),h.cE,h.cF,(List.perm_append_comm.append_right own).trans h.all,h.len⟩
theorem zkb {p:zb} (hp:zC p) {m:List (BitVec 64)} {a x:Int} {v:BitVec 64} (ha:a=zU p∨a=zD p) (hx:1≤x):ld (st m a v) (zD p+x)=ld m (zD p+x):=by
 have:=xx hp
 exact yg (by omega)
theorem Chn.st_head {p:zb} (hp:zC p) {m:List (BitVec 64)} {nb:Nat} {a h:Int} {l:List Int} {v:BitVec 64} (ha:a=zU p∨a=zD p) (c:Chn m (zD p) nb h l):Chn (Go.Pe.G.st m a v) (zD p) nb h l:=by
 have:=xx hp
 exact c.st (fun x hx=>by have:=(c.mem x hx).1;omega)
theorem Mv.head {p:zb} (hp:zC p) {nb:Nat} {X:List Int} {m:List (BitVec 64)} {a:Int} {v:BitVec 64} (ha:a=zU p∨a=zD p) (hv:xh (ld m a)<xh v):Mv p nb X m (st m a v):=by
 refine ⟨fun h hh=> ?_,fun x hx _ _=>zkb hp ha hx⟩
 by_cases e:a=h
 ·subst e
  rw [YI]
  split
  ·exact ⟨by omega,.inr hv⟩
  ·exact ⟨Nat.le_refl _,.inl rfl⟩
 ·rw [yg e];exact ⟨Nat.le_refl _,.inl rfl⟩
theorem zrr {p:zb} (hp:zC p) {nb:Nat} (hnb:nb<1000) {m:List (BitVec 64)} {h1 h2:Int} {F E own:List Int} (L:LI p nb m h1 h2 F E own) {c:zx}
  (hk:c.Kind=2) (hh:c.Head=h1) (hN:c.Next=zD p) (ho:c.Out=0) (hpc:0≤c.PC∧c.PC≤2) (K:CK p m c) (hn:1≤c.PC→1≤yo c.H∧yo c.H<nb) (hv:xh (ld m h1)+1<4294967296) :
  ((zj m c).1=m∧(zj m c).2.Out≠1∧((zj m c).2.Out=2→F=[])∧CK p m (zj m c).2) ∨
  (∃x F',F=x::F'∧(zj m c).2.Out=1∧(zj m c).2.X=x∧LI p nb (zj m c).1 h1 h2 F' E (x::own)∧Mv p nb [] m (zj m c).1∧xh (ld (zj m c).1 h1)=xh (ld m h1)+1∧ld (zj m c).1 h2=ld m h2):=by
 have hE:=xx hp
 have hF:=vT hp
 have hd:h1=zU p∨h1=zD p:=by rcases L.hs with g | g<;>simp [g]
 unfold zj
 rw [if_neg (by omega)]
 by_cases c0:c.PC=0
 ·rw [if_pos c0]
  left
  split
  ·rename_i e
   refine ⟨rfl,(by show (2:Int)≠1;decide),fun _=> ?_,⟨fun _=>by rw [hh];exact Nat.le_refl _,fun e2=>(by cases e2),fun e2=>(by cases e2)⟩⟩
   have:=L.cF
   rw [hh] at e
   rw [e.2] at this
   exact this.empty
  ·refine ⟨rfl,by dsimp only;omega,fun e=>by dsimp only at e;omega,⟨fun _=>by rw [hh];exact Nat.le_refl _,fun e2=>(by cases e2),fun e2=>(by cases e2)⟩⟩
 ·rw [if_neg c0]
  by_cases c1:c.PC=1
  ·rw [if_pos c1,if_pos hk]
   left
   refine ⟨rfl,by dsimp only;omega,fun e=>by dsimp only at e;omega,⟨fun _=>K.v (by omega),fun _ _ _=> ?_,fun _ e=>by dsimp only at e;omega⟩⟩
   have:=hn (by omega)
   dsimp only
   rw [hN,xm (by omega) (by omega)]
  ·rw [if_neg c1]
   have c2:c.PC=2:=by omega
   simp only [if_pos hk]
   by_cases hs:0≤c.Head∧c.Head<m.length∧ld m c.Head=c.H
   ·right
    have n:=hn (by omega)
    have hsw:sw m c.Head c.H (yX (c.H >>> 32+1#64) c.Y)=(st m c.Head (yX (c.H >>> 32+1#64) c.Y),true):=by unfold sw;rw [if_pos hs]
    rw [hsw]
    have hc:=L.cF
    rw [←hh,hs.2.2] at hc
    obtain ⟨t,ht,_,_,hct⟩:=hc.head (by omega)
    have hy:=K.y c2 hk hs.2.2
    have hct':=hct
    rw [←hy] at hct'
    have y0:0≤c.Y∧c.Y<nb:=by
     cases t with
     | nil=>have e:c.Y=0:=hct';omega
     | cons z t=>have:=hct'.1;have:=hct'.2.1;have:=hct'.2.2.1;omega
    have vp:xh (yX (c.H >>> 32+1#64) c.Y)=xh c.H+1:=zqc c.H y0.1 (by omega) (by rw [←hs.2.2,hh];exact hv)
    have hcH:xh c.H=xh (ld m h1):=by rw [←hs.2.2,hh]
    have ld1:ld (st m h1 (yX (c.H >>> 32+1#64) c.Y)) h1=yX (c.H >>> 32+1#64) c.Y:=by rw [YI,if_pos ⟨rfl,by rw [←hh];exact hs.1,by rw [←hh];exact hs.2.1⟩]
    have h12:h1≠h2:=by rcases L.hs with g | g<;>omega
    refine ⟨yo c.H,t,ht,rfl,rfl,?_,?_,?_,?_⟩
    ·rw [hh]
     refine ⟨L.hs,?_,?_,?_,by rw [Zu];exact L.len⟩
     ·rw [ld1,za8 _ y0.1 (by omega)]
      exact hct'.st_head hp hd
     ·rw [yg h12]
      exact L.cE.st_head hp hd
     ·refine List.Perm.trans ?_ L.all
      rw [ht]
      show List.Perm (t++E++yo c.H::own) (yo c.H::(t++E++own))
      exact List.perm_middle
    ·rw [hh]
     exact Mv.head hp hd (by rw [vp,hcH];omega)
    ·rw [hh,ld1,vp,hcH]
    ·rw [hh,yg h12]
   ·left
    have hsw:sw m c.Head c.H (yX (c.H >>> 32+1#64) c.Y)=(m,false):=by unfold sw;rw [if_neg hs]
    rw [hsw]
    refine ⟨rfl,by dsimp only;simp;omega,fun e=>by simp at e;omega,⟨fun e=>by simp at e,fun e=>by simp at e,fun e=>by simp at e⟩⟩
theorem zrR {n:Int} (h:0≤n) (h2:n<4294967296):(BitVec.ofInt 64 n).toInt=n:=toInt_ofInt h h2
theorem zhU {N a b:Int} (h:N+a=N+b):b=a:=by omega
theorem zo9 {p:zb} (hp:zC p) {nb:Nat} (hnb:nb<1000) {m:List (BitVec 64)} {h1 h2 b:Int} {F E o1 o2:List Int} (L:LI p nb m h1 h2 F E (o1++b::o2)) {c:zx}
  (hk:c.Kind=1) (hh:c.Head=h1) (hN:c.Next=zD p) (hX:c.X=b) (ho:c.Out=0) (hpc:0≤c.PC∧c.PC≤2) (K:CK p m c) (hn:1≤c.PC→yo c.H<nb) (hv:xh (ld m h1)+1<4294967296) :
  ((zj m c).2.Out=0∧LI p nb (zj m c).1 h1 h2 F E (o1++b::o2)∧Mv p nb [b] m (zj m c).1∧CK p (zj m c).1 (zj m c).2∧(∀a,a≤zD p→ld (zj m c).1 a=ld m a)) ∨
  ((zj m c).2.Out=1∧LI p nb (zj m c).1 h1 h2 (b::F) E (o1++o2)∧Mv p nb [] m (zj m c).1∧xh (ld (zj m c).1 h1)=xh (ld m h1)+1∧(∀a,a≤zD p→a≠h1→ld (zj m c).1 a=ld m a)):=by
 have hE:=xx hp
 have hF:=vT hp
 have hd:h1=zU p∨h1=zD p:=by rcases L.hs with g | g<;>simp [g]
 have hd2:h2=zU p∨h2=zD p:=by rcases L.hs with g | g<;>simp [g]
 have hb:1≤b∧b<nb:=L.own_in (List.mem_append_right _ (by simp))
 have hbn:=L.notF (x:=b) (List.mem_append_right _ (by simp))
 have hlen:=L.len
 have hk2: ¬c.Kind=2:=by omega
 unfold zj
 rw [if_neg (by omega)]
 by_cases c0:c.PC=0
 ·rw [if_pos c0,if_neg (fun e=>hk2 e.1)]
  left
  exact ⟨ho,L,Mv.refl _ _ _ _,⟨fun _=>by rw [hh];exact Nat.le_refl _,fun e2=>(by cases e2),fun e2=>(by cases e2)⟩,fun _ _=>rfl⟩
 ·rw [if_neg c0]
  by_cases c1:c.PC=1
  ·rw [if_pos c1,if_neg hk2]
   left
   have nn:=zgE c.H
   have ea:wc (c.Next+c.X)=zD p+b:=by rw [hN,hX,xm (by omega) (by omega)]
   rw [ea]
   have hne: ∀h,h=zU p∨h=zD p→ld (st m (zD p+b) (BitVec.ofInt 64 (yo c.H))) h=ld m h:=fun h hh=>yg (by omega)
   refine ⟨ho,⟨L.hs,?_,?_,L.all,by dsimp only;rw [Zu];exact hlen⟩,⟨fun h hh=> ?_,fun x x1 x2 x3=> ?_⟩,⟨fun _=> ?_,fun _ e=>absurd e hk2,fun _ _=> ?_⟩,fun a ha=> ?_⟩
   ·dsimp only
    rw [hne _ hd]
    exact L.cF.st (fun x hx e=>hbn.1 (zhU e▸hx))
   ·dsimp only
    rw [hne _ hd2]
    exact L.cE.st (fun x hx e=>hbn.2 (zhU e▸hx))
   ·dsimp only
    rw [hne _ hh];exact ⟨Nat.le_refl _,.inl rfl⟩
   ·dsimp only
    exact yg (fun e=>x3 (List.mem_singleton.2 (zhU e)))
   ·dsimp only
    rw [hh,hne _ hd,←hh];exact K.v (by omega)
   ·dsimp only
    rw [hX,YI,if_pos ⟨rfl,by omega,by omega⟩]
   ·dsimp only
    exact yg (by omega)
  ·rw [if_neg c1]
   have c2:c.PC=2:=by omega
   simp only [if_neg hk2]
   by_cases hs:0≤c.Head∧c.Head<m.length∧ld m c.Head=c.H
   ·right
    have n:=hn (by omega)
    have nn:=zgE c.H
    have hsw:sw m c.Head c.H (yX (c.H >>> 32+1#64) c.X)=(st m c.Head (yX (c.H >>> 32+1#64) c.X),true):=by unfold sw;rw [if_pos hs]
    rw [hsw]
    have hl:=K.l c2 hk
    rw [hX] at hl
    have vp:xh (yX (c.H >>> 32+1#64) c.X)=xh c.H+1:=zqc c.H (by omega) (by omega) (by rw [←hs.2.2,hh];exact hv)
    have hcH:xh c.H=xh (ld m h1):=by rw [←hs.2.2,hh]
    have ld1:ld (st m h1 (yX (c.H >>> 32+1#64) c.X)) h1=yX (c.H >>> 32+1#64) c.X:=by rw [YI,if_pos ⟨rfl,by rw [←hh];exact hs.1,by rw [←hh];exact hs.2.1⟩]
    have h12:h1≠h2:=by rcases L.hs with g | g<;>omega
    refine ⟨rfl,?_,?_,?_,fun a ha hne=> ?_⟩
    ·rw [hh]
     refine ⟨L.hs,?_,?_,?_,by dsimp only;rw [Zu];exact hlen⟩
     ·dsimp only
      rw [ld1,za8 _ (by omega) (by omega),hX]
      refine ⟨rfl,hb.1,hb.2,?_⟩
      rw [zkb hp hd hb.1,hl,zrR nn.1 nn.2]
      have:=L.cF
      rw [←hh,hs.2.2] at this
      rw [←hX,←hh] at *
      exact this.st_head hp hd
     ·dsimp only
      rw [yg h12]
      exact L.cE.st_head hp hd
     ·refine List.Perm.trans ?_ L.all
      show List.Perm (b::(F++E++(o1++o2))) (F++E++(o1++b::o2))
      rw [←List.append_assoc (F++E) o1 o2,←List.append_assoc (F++E) o1 (b::o2)]
      exact List.perm_middle.symm
    ·rw [hh]
     exact Mv.head hp hd (by rw [vp,hcH];omega)
    ·rw [hh]
     dsimp only
     rw [ld1,vp,hcH]
    ·rw [hh]
     exact yg (fun e=>hne e.symm)
   ·left
    have hsw:sw m c.Head c.H (yX (c.H >>> 32+1#64) c.X)=(m,false):=by unfold sw;rw [if_neg hs]
    rw [hsw]
    exact ⟨ho,L,Mv.refl _ _ _ _,⟨fun e=>(by simp at e),fun e=>(by simp at e),fun e=>(by simp at e)⟩,fun _ _=>rfl⟩
end
end Go.Pe.G
namespace Go.Pe.G
open Go.Pe
noncomputable section
structure Gh where
 F:List Int
 E:List Int
 D:Int→List Int
 t:Int→Nat
 c:Int→Nat
def xe (s:za) (b:Int):List Int:=(s.Bins[b.toNat]?).getD []
def yy (p:zb) (s:za) (g:Gh):List Int:=g.F.flatMap (xe s)++(List.range p.Workers.toNat).flatMap (fun i:Nat=>g.D ((i:Int)+1))
structure SX (p:zb) (nb:Nat) (s:za) (g:Gh) (own:List Int) (k:Nat):Prop where
 S:SOk p nb s
 L:LI p nb s.M (zU p) (zD p) g.F g.E own
 D: ∀w,1≤w→w≤p.Workers→DQ p s.M w (g.t w) (g.D w) (g.c w)
 v:xh (ld s.M (zU p))≤k∧xh (ld s.M (zD p))≤k
 dk: ∀w,1≤w→w≤p.Workers→g.t w+(g.D w).length≤k+1000
inductive DFr (p:zb) (m m':List (BitVec 64)) (g g':Gh) (w:Int):Prop
 | same (e1:g'.t w=g.t w) (e2:g'.D w=g.D w) (e3:g'.c w=g.c w) (e4: ∀a,zF p w≤a→a<zF p w+p.Cap+2→ld m' a=ld m a):DFr p m m' g g' w
 | stolen (x:Int) (e1:g'.t w=g.t w+1) (e2:g.D w=x::g'.D w) (e3:g'.c w=g.c w) (e4: ∀a,zF p w<a→a<zF p w+p.Cap+2→ld m' a=ld m a):DFr p m m' g g' w
structure FX (p:zb) (nb:Nat) (X:List Int) (O:Int→Prop) (s s':za) (g g':Gh):Prop where
 mv:Mv p nb X s.M s'.M
 bn: ∀b,1≤b→b∉X→s'.Bins[b.toNat]? =s.Bins[b.toNat]?
 dq: ∀w,1≤w→w≤p.Workers→DFr p s.M s'.M g g' w∨(O w∧Dv (g.t w) (g.D w) (g'.t w) (g'.D w))
 fb: ∀y∈g'.F,y∈g.F∨xe s' y≠[]
theorem DFr.dv {p:zb} {m m':List (BitVec 64)} {g g':Gh} {w:Int} (h:DFr p m m' g g' w):Dv (g.t w) (g.D w) (g'.t w) (g'.D w):=by
 cases h with
 | same t l c m=>rw [t,l];exact Dv.refl _ _
 | stolen x t l c m=>exact ⟨by omega,fun e=>by omega⟩
theorem FX.dv {p:zb} {nb:Nat} {X:List Int} {O:Int→Prop} {s s':za} {g g':Gh} (h:FX p nb X O s s' g g') {w:Int} (h1:1≤w) (h2:w≤p.Workers):Dv (g.t w) (g.D w) (g'.t w) (g'.D w):=by
 rcases h.dq w h1 h2 with h | h
 ·exact h.dv
 ·exact h.2
theorem FX.tk {p:zb} {nb:Nat} {X:List Int} {O:Int→Prop} {s s':za} {g g':Gh} (h:FX p nb X O s s' g g') {w:Int} (h1:1≤w) (h2:w≤p.Workers) {d:zg} (K:TK p s.M w (g.t w) (g.D w) d):TK p s'.M w (g'.t w) (g'.D w) d:=K.dv (h.dv h1 h2)
theorem FX.pk {p:zb} (hp:zC p) {nb:Nat} {X:List Int} {O:Int→Prop} {s s':za} {g g':Gh} (h:FX p nb X O s s' g g') {w:Int} (h1:1≤w) (h2:w≤p.Workers) (ho: ¬O w) {d:zg} (K:PK p s.M w (g.t w) (g.D w) (g.c w) d):PK p s'.M w (g'.t w) (g'.D w) (g'.c w) d:=by
 rcases h.dq w h1 h2 with h | h
 ·cases h with
  | same t l c m=>rw [t,l,c];exact K.keep
  | stolen x t l c m=>rw [l] at K;rw [t,c];exact K.stolen hp ⟨h1,h2⟩
 ·exact absurd h.1 ho
theorem FX.dk {p:zb} (hp:zC p) {nb:Nat} {X:List Int} {O:Int→Prop} {s s':za} {g g':Gh} (h:FX p nb X O s s' g g') {w:Int} (h1:1≤w) (h2:w≤p.Workers) (ho: ¬O w) {d:zg} (K:DK p s.M w (g.t w) (g.D w) (g.c w) d):DK p s'.M w (g'.t w) (g'.D w) (g'.c w) d:=by
 have hc:=hp.cap
 rcases h.dq w h1 h2 with h | h
 ·cases h with
  | same t l c m=>rw [t,l,c];exact K.keep hp (fun a h1 h2=>m a (by omega) h2)
  | stolen x t l c m =>
   rw [l] at K
   have K':DK p s'.M w (g.t w) (x::g'.D w) (g.c w) d:=K.keep hp (fun a h1 h2=>m a (by omega) h2)
   rw [t,c]
   exact K'.stolen (m':=s'.M) (fun _ _=>rfl) hp
 ·exact absurd h.1 ho
def xK (g:zA):List Int:=if g.Out=0∧(g.PC=6∨g.PC=7) then [g.Bin] else []
def yM (g:zA):List Int:=if g.Out=0∧3≤g.PC∧g.PC≤7 then [g.Obj] else []
structure GX (p:zb) (s:za) (gh:Gh) (g:zA):Prop where
 o:g.Out=0∨g.Out=1
 pc:0≤g.PC∧g.PC≤7
 md:1≤g.Mode∧g.Mode≤3
 ob:1≤g.Obj∧g.Obj≤64
 c0:g.Mode=1→g.Out=0→gh.c g.Who=0
 c5:g.PC=5→g.Out=0→g.C.Out=0∧(0≤g.C.PC∧g.C.PC≤2)∧CK p s.M g.C
 c7:g.PC=7→g.Out=0→g.C.Out=0∧(0≤g.C.PC∧g.C.PC≤2)∧g.C.X=g.Bin∧CK p s.M g.C∧s.Bins[g.Bin.toNat]? =some [g.Obj]
 d3:g.PC=3→g.Out=0→g.Mode=1∧g.D.X=g.Obj∧DK p s.M g.Who (gh.t g.Who) (gh.D g.Who) (gh.c g.Who) g.D
theorem GX.other {p:zb} (hp:zC p) {nb k:Nat} {s s':za} {gh gh':Gh} {X R:List Int} {O:Int→Prop} {o:zA} (Y:SX p nb s gh (X++R) k) (Fx:FX p nb X O s s' gh gh') (G:GX p s gh o) (M:MOk p nb o)
  (hR: ∀x∈xK o,x∈R) (apart:o.Mode=1→¬O o.Who):GX p s' gh' o:=by
 have hsub: ∀x∈X,x∈X++R:=fun x hx=>List.mem_append_left _ hx
 have hnd:=(List.nodup_append.1 Y.L.nodup).2.1
 have hnot: ∀x,x∈xK o→x∉X:=fun x hx hg=>(List.nodup_append.1 hnd).2.2 x hg x (hR x hx) rfl
 refine ⟨G.o,G.pc,G.md,G.ob,fun h1 h0=> ?_,fun h5 h0=> ?_,fun h7 h0=> ?_,fun h3 h0=> ?_⟩
 ·have hw:=M.who h1
  rcases Fx.dq o.Who hw.1 hw.2 with h | h
  ·cases h with
   | same t l c m=>rw [c];exact G.c0 h1 h0
   | stolen x t l c m=>rw [c];exact G.c0 h1 h0
  ·exact absurd h.1 (apart h1)
 ·obtain ⟨a,b,c⟩:=G.c5 h5 h0
  obtain ⟨m1,m2,m3,m4,m5⟩:=M.c5 h5
  exact ⟨a,b,c.mv Y.L Fx.mv hsub (.inr m2) (fun h _=>m4 h) (fun e=>by omega)⟩
 ·obtain ⟨a,b,c,d,e⟩:=G.c7 h7 h0
  obtain ⟨m1,m2,m3,m4,m5⟩:=M.c7 h7
  have hown:o.Bin∈xK o:=by unfold xK;rw [if_pos ⟨h0,.inr h7⟩];simp
  have hno:=hnot _ hown
  exact ⟨a,b,c,d.mv Y.L Fx.mv hsub (.inl m2) (fun _ e=>by omega) (fun _=>⟨m4.1,m4.2,by rw [c];exact hno⟩),by rw [Fx.bn o.Bin (by rw [←c];exact m4.1) hno];exact e⟩
 ·obtain ⟨a,b,c⟩:=G.d3 h3 h0
  have hw:=M.who a
  exact ⟨a,b,Fx.dk hp hw.1 hw.2 (apart a) c⟩
theorem Wa (m:List (BitVec 64)) {c:zx} (h:c.Out=0) (hpc:0≤c.PC∧c.PC≤2) (hk:c.Kind=1∨c.Kind=2) :
  ((zj m c).2.Out=0∧0≤(zj m c).2.PC∧(zj m c).2.PC≤2)∨(zj m c).2.Out=1∨((zj m c).2.Out=2∧c.Kind=2):=by
 unfold zj
 rw [if_neg (by omega)]
 split
 ·dsimp only
  split
  ·rename_i e;exact .inr (.inr ⟨rfl,e.1⟩)
  ·exact .inl ⟨h,by show (0:Int)≤1;decide,by show (1:Int)≤2;decide⟩
 split
 ·split<;>exact .inl ⟨h,by show (0:Int)≤2;decide,by show (2:Int)≤2;decide⟩
 ·dsimp only
  generalize sw m c.Head c.H _=r
  split
  ·split<;>exact .inr (.inl rfl)
  ·exact .inl ⟨h,by show (0:Int)≤0;decide,by show (0:Int)≤2;decide⟩
theorem zhD (m:List (BitVec 64)) (c:zx):(zj m c).2.Kind=c.Kind∧(zj m c).2.Head=c.Head∧(zj m c).2.Next=c.Next∧(c.Kind=1→(zj m c).2.X=c.X):=by
 unfold zj
 split
 ·exact ⟨rfl,rfl,rfl,fun _=>rfl⟩
 split
 ·dsimp only;split<;>exact ⟨rfl,rfl,rfl,fun _=>rfl⟩
 split
 ·split<;>exact ⟨rfl,rfl,rfl,fun _=>rfl⟩
 ·dsimp only
  generalize sw m c.Head c.H _=r
  split
  ·split
   ·rename_i e;exact ⟨rfl,rfl,rfl,fun e2=>by omega⟩
   ·exact ⟨rfl,rfl,rfl,fun _=>rfl⟩
  ·exact ⟨rfl,rfl,rfl,fun _=>rfl⟩
theorem SX.quiet {p:zb} {nb k:Nat} {s s':za} {g:Gh} {own:List Int} (X:SX p nb s g own k) (S':SOk p nb s') (hm:s'.M=s.M):SX p nb s' g own (k+1) :=
 ⟨S',by rw [hm];exact X.L,by rw [hm];exact X.D,by rw [hm];exact ⟨Nat.le_succ_of_le X.v.1,Nat.le_succ_of_le X.v.2⟩,fun w h1 h2=>by have:=X.dk w h1 h2;omega⟩
theorem FX.quiet {p:zb} {nb:Nat} {X:List Int} {O:Int→Prop} {s s':za} {g:Gh} (hm:s'.M=s.M) (hb: ∀b,1≤b→b∉X→s'.Bins[b.toNat]? =s.Bins[b.toNat]?):FX p nb X O s s' g g :=
 ⟨by rw [hm];exact Mv.refl _ _ _ _,hb,fun _ _ _=> .inl (.same rfl rfl rfl (fun _ _ _=>by rw [hm])),fun _ h=> .inl h⟩
theorem ZB {p:zb} {s s':za} {g:Gh} (hb:s'.Bins=s.Bins):yy p s' g=yy p s g:=by
 unfold yy xe;rw [hb]
theorem wN {g:zA} (h:g.Out≠0∨(g.PC≠6∧g.PC≠7)):xK g=[]:=by unfold xK;rw [if_neg (by omega)]
theorem zfV {g:zA} (h:g.Out=0) (h2:g.PC=6∨g.PC=7):xK g=[g.Bin]:=by unfold xK;rw [if_pos ⟨h,h2⟩]
theorem u5 {g:zA} (h:g.Out≠0∨g.PC<3∨7<g.PC):yM g=[]:=by unfold yM;rw [if_neg (by omega)]
theorem vw {g:zA} (h:g.Out=0) (h2:3≤g.PC) (h3:g.PC≤7):yM g=[g.Obj]:=by unfold yM;rw [if_pos ⟨h,h2,h3⟩]
theorem GX.ask {p:zb} {s:za} {gh:Gh} {g:zA} (o:g.Out=0) (md:1≤g.Mode∧g.Mode≤3) (ob:1≤g.Obj∧g.Obj≤64) (c0:g.Mode=1→gh.c g.Who=0) (q:zb):GX p s gh (zfB q g) :=
 ⟨.inl o,⟨by show (0:Int)≤5;decide,by show (5:Int)≤7;decide⟩,md,ob,fun h _=>c0 h,
  fun _ _=>⟨rfl,⟨by show (0:Int)≤0;decide,by show (0:Int)≤2;decide⟩,⟨fun e=>absurd e (by show ¬(1:Int)≤0;decide),fun e=>absurd e (by show ¬(0:Int)=2;decide),fun e=>absurd e (by show ¬(0:Int)=2;decide)⟩⟩,
  fun e=>absurd e (by show ¬(5:Int)=7;decide),fun e=>absurd e (by show ¬(5:Int)=3;decide)⟩
theorem GX.plain {p:zb} {s:za} {gh:Gh} {g:zA} (o:g.Out=0∨g.Out=1) (pc:0≤g.PC∧g.PC≤7) (md:1≤g.Mode∧g.Mode≤3) (ob:1≤g.Obj∧g.Obj≤64) (c0:g.Mode=1→g.Out=0→gh.c g.Who=0) (h:g.Out≠0∨(g.PC≠3∧g.PC≠5∧g.PC≠7)):GX p s gh g :=
 ⟨o,pc,md,ob,c0,fun e e2=>by omega,fun e e2=>by omega,fun e e2=>by omega⟩
def zpV (g:zA) (w:Int):Prop:=g.Mode=1∧w=g.Who
def zkC (p:zb) (nb k:Nat) (R:List Int) (gh:Gh) (s:za) (g:zA) (s':za) (g':zA):Prop :=
 ∃gh',SX p nb s' gh' (xK g'++R) (k+1)∧GX p s' gh' g'∧FX p nb (xK g) (zpV g) s s' gh gh'∧(g.Mode=1→g.Out=0→gh'.c g.Who=0)∧(∀b∈gh'.F,b∈gh.F∨xe s' b≠[]) ∧
  ∃N,List.Perm (yy p s' gh'++yM g') (N++(yy p s gh++yM g)) ∧
   ((N=[]∧s'.T=s.T)∨(N=[g.Obj]∧¬(s.T.Marks|||bit g.Obj=s.T.Marks)∧s'.T={s.T with Marks:=s.T.Marks|||bit g.Obj}))
theorem zkC.quiet {p:zb} {nb k:Nat} {R:List Int} {gh:Gh} {s s':za} {g g':zA} (X:SX p nb s gh (xK g++R) k) (S':SOk p nb s') (hm:s'.M=s.M) (hb:s'.Bins=s.Bins) (hT:s'.T=s.T)
  (ho:xK g'=xK g) (hh:yM g'=yM g) (c0:g.Mode=1→g.Out=0→gh.c g.Who=0) (G':GX p s' gh g'):zkC p nb k R gh s g s' g' :=
 ⟨gh,by rw [ho];exact X.quiet S' hm,G',FX.quiet hm (fun _ _ _=>by rw [hb]),c0,fun _ h=> .inl h,[],by rw [ZB hb,hh];exact List.Perm.refl _,.inl ⟨rfl,hT⟩⟩
theorem zjy (m:List (BitVec 64)) {c:zx} (hk:c.Kind=2) {a:Int} (ha:a≠c.Head):ld (zj m c).1 a=ld m a:=by
 unfold zj
 split
 ·rfl
 split
 ·rfl
 split
 ·rfl
 ·dsimp only
  unfold sw
  split
  ·exact yg (fun e=>ha e.symm)
  ·rfl
theorem Chn.congr {m m':List (BitVec 64)} {N:Int} {nb:Nat} (hm: ∀x:Int,1≤x→ld m' (N+x)=ld m (N+x)): ∀ {l:List Int} {h:Int},Chn m N nb h l→Chn m' N nb h l
 | [],h,c=>c
 | y::l,h,c=>⟨c.1,c.2.1,c.2.2.1,by rw [hm y c.2.1];exact Chn.congr hm c.2.2.2⟩
theorem LI.low {p:zb} (hp:zC p) {nb:Nat} {m m':List (BitVec 64)} {h1 h2:Int} {F E own:List Int} (L:LI p nb m h1 h2 F E own) (hl:m'.length=m.length) (hm: ∀a,zU p≤a→ld m' a=ld m a):LI p nb m' h1 h2 F E own:=by
 have hE:=xx hp
 have h:h1=zU p∨h1=zD p:=by rcases L.hs with g | g<;>simp [g]
 have h':h2=zU p∨h2=zD p:=by rcases L.hs with g | g<;>simp [g]
 exact ⟨L.hs,by rw [hm h1 (by omega)];exact L.cF.congr (fun x hx=>hm _ (by omega)),by rw [hm h2 (by omega)];exact L.cE.congr (fun x hx=>hm _ (by omega)),L.all,by rw [hl];exact L.len⟩
theorem Mv.low {p:zb} (hp:zC p) {nb:Nat} {X:List Int} {m m':List (BitVec 64)} (hm: ∀a,zU p≤a→ld m' a=ld m a):Mv p nb X m m':=by
 have hE:=xx hp
 exact ⟨fun h hh=>by rw [hm h (by omega)];exact ⟨Nat.le_refl _,.inl rfl⟩,fun x hx _ _=>hm _ (by omega)⟩
theorem zlj {p:zb} (hp:zC p) {v w:Int} (hv:1≤v∧v≤p.Workers) (hw:1≤w∧w≤p.Workers) (h:v≠w):zF p v+p.Cap+2≤zF p w∨zF p w+p.Cap+2≤zF p v:=by
 have hk:=hp.wk
 have hc:=hp.cap
 have h1:=(uV hp hv.1 hv.2).1
 have h2:=(uV hp hw.1 hw.2).1
 have hx:v=1∨v=2∨v=3:=by omega
 have hy:w=1∨w=2∨w=3:=by omega
 rw [h1,h2]
 rcases hx with rfl | rfl | rfl<;>rcases hy with rfl | rfl | rfl<;>omega
theorem zoG {p:zb} (hp:zC p) {w:Int} (hw:1≤w∧w≤p.Workers) {m m':List (BitVec 64)} (hm: ∀a,(a<zF p w∨zF p w+p.Cap+2≤a)→ld m' a=ld m a):(∀a,zU p≤a→ld m' a=ld m a) ∧
  ∀v,1≤v→v≤p.Workers→v≠w→∀a,zF p v≤a→a<zF p v+p.Cap+2→ld m' a=ld m a:=by
 have hd:=uV hp hw.1 hw.2
 refine ⟨fun a ha=>hm a (by omega),fun v h1 h2 hne a h3 h4=>hm a ?_⟩
 have:=zlj hp ⟨h1,h2⟩ hw hne
 omega
def XM (g:Gh) (w:Int) (t:Nat) (l:List Int) (c:Nat):Gh:={g with D:=fun v=>if v=w then l else g.D v,t:=fun v=>if v=w then t else g.t v,c:=fun v=>if v=w then c else g.c v}
theorem Z9 {g:Gh} {w v:Int} {t c:Nat} {l:List Int} (h:v≠w):(XM g w t l c).D v=g.D v∧(XM g w t l c).t v=g.t v∧(XM g w t l c).c v=g.c v:=by
 unfold XM;dsimp only;rw [if_neg h,if_neg h,if_neg h];exact ⟨rfl,rfl,rfl⟩
theorem wq {g:Gh} {w:Int} {t c:Nat} {l:List Int}:(XM g w t l c).D w=l∧(XM g w t l c).t w=t∧(XM g w t l c).c w=c:=by
 unfold XM;dsimp only;rw [if_pos rfl,if_pos rfl,if_pos rfl];exact ⟨rfl,rfl,rfl⟩
theorem SX.dq {p:zb} (hp:zC p) {nb k:Nat} {s s':za} {g:Gh} {own:List Int} (X:SX p nb s g own k) (S':SOk p nb s') (hl:s'.M.length=s.M.length) {w:Int} (hw:1≤w∧w≤p.Workers)
  (hm: ∀a,(a<zF p w∨zF p w+p.Cap+2≤a)→ld s'.M a=ld s.M a) {t c:Nat} {l:List Int} (D:DQ p s'.M w t l c) (hk:t+l.length≤k+1+1000):SX p nb s' (XM g w t l c) own (k+1):=by
 obtain ⟨h1,h2⟩:=zoG hp hw hm
 have hE:=xx hp
 refine ⟨S',X.L.low hp hl h1,fun v a b=> ?_,?_,fun v a b=> ?_⟩
 ·by_cases e:v=w
  ·subst e
   rw [wq.1,wq.2.1,wq.2.2];exact D
  ·rw [(Z9 e).1,(Z9 e).2.1,(Z9 e).2.2]
   exact (X.D v a b).keep hp (h2 v a b e)
 ·rw [h1 _ (by omega),h1 _ (by omega)]
  exact ⟨Nat.le_succ_of_le X.v.1,Nat.le_succ_of_le X.v.2⟩
 ·by_cases e:v=w
  ·subst e
   rw [wq.1,wq.2.1];exact hk
  ·rw [(Z9 e).1,(Z9 e).2.1]
   have:=X.dk v a b;omega
theorem FX.own {p:zb} (hp:zC p) {nb:Nat} {Y:List Int} {O:Int→Prop} {s s':za} {g:Gh} {w:Int} (hw:1≤w∧w≤p.Workers)
  (hm: ∀a,(a<zF p w∨zF p w+p.Cap+2≤a)→ld s'.M a=ld s.M a) (hb:s'.Bins=s.Bins) {t c:Nat} {l:List Int} (hO:O w) (V:Dv (g.t w) (g.D w) t l):FX p nb Y O s s' g (XM g w t l c):=by
 obtain ⟨h1,h2⟩:=zoG hp hw hm
 refine ⟨Mv.low hp h1,fun b _ _=>by rw [hb],fun v a b=> ?_,fun _ h=> .inl h⟩
 by_cases e:v=w
 ·subst e
  right
  rw [wq.1,wq.2.1];exact ⟨hO,V⟩
 ·exact .inl (.same (Z9 e).2.1 (Z9 e).1 (Z9 e).2.2 (h2 v a b e))
theorem vb {α β:Type} {f g:α→List β}: ∀ {l:List α},(∀x∈l,f x=g x)→l.flatMap f=l.flatMap g
 | [],_=>rfl
 | a::l,h=>by rw [List.flatMap_cons,List.flatMap_cons,h a (by simp),vb (fun x hx=>h x (List.mem_cons_of_mem _ hx))]
theorem zrM {n:Nat} {i:Nat} (h:i<n): ∃a b,List.range n=a++i::b∧i∉a∧i∉b:=by
 refine ⟨List.range i,(List.range (n-i-1)).map (fun j=>i+1+j),?_,by simp,by simp;omega⟩
 have:n=i+(1+(n-i-1)):=by omega
 rw [this,List.range_add,List.range_add]
 simp [List.range_succ,Nat.add_assoc,Function.comp_def]
theorem zku {p:zb} {s s':za} {g:Gh} (hb:s'.Bins=s.Bins) {w:Int} (hw:1≤w∧w≤p.Workers) {t c:Nat} {l:List Int}: ∃a b,yy p s g=a++g.D w++b∧yy p s' (XM g w t l c)=a++l++b:=by
 obtain ⟨a,b,e,ha,hb'⟩:=zrM (n:=p.Workers.toNat) (i:=(w-1).toNat) (by omega)
 have ew:(((w-1).toNat:Nat):Int)+1=w:=by omega
 have ne: ∀j:Nat,j≠(w-1).toNat→(j:Int)+1≠w:=fun j hj e=>hj (by omega)
 refine ⟨g.F.flatMap (xe s)++a.flatMap (fun i:Nat=>g.D ((i:Int)+1)),b.flatMap (fun i:Nat=>g.D ((i:Int)+1)),?_,?_⟩
 ·unfold yy
  rw [e,List.flatMap_append,List.flatMap_cons,ew]
  simp [List.append_assoc]
 ·unfold yy xe
  rw [hb,e,List.flatMap_append,List.flatMap_cons,ew,wq.1]
  have h1:a.flatMap (fun i:Nat=>(XM g w t l c).D ((i:Int)+1))=a.flatMap (fun i:Nat=>g.D ((i:Int)+1)):=by
   refine vb (fun j hj=> ?_);exact (Z9 (ne j (fun e=>ha (e▸hj)))).1
  have h2:b.flatMap (fun i:Nat=>(XM g w t l c).D ((i:Int)+1))=b.flatMap (fun i:Nat=>g.D ((i:Int)+1)):=by
   refine vb (fun j hj=> ?_);exact (Z9 (ne j (fun e=>hb' (e▸hj)))).1
  rw [h1,h2]
  have hF:(XM g w t l c).F=g.F:=rfl
  rw [hF]
  simp [List.append_assoc]
theorem Mv.weak {p:zb} {nb:Nat} {m m':List (BitVec 64)} (M:Mv p nb [] m m') (Y:List Int):Mv p nb Y m m':=⟨M.hd,fun x a b _=>M.nx x a b (by simp)⟩
theorem Mv.grow {p:zb} {nb:Nat} {X Y:List Int} {m m':List (BitVec 64)} (M:Mv p nb X m m') (h: ∀x∈X,x∈Y):Mv p nb Y m m':=⟨M.hd,fun x a b c=>M.nx x a b (fun e=>c (h x e))⟩
theorem SX.chain {p:zb} (hp:zC p) {nb k:Nat} {s s':za} {g:Gh} {own own' F E:List Int} (X:SX p nb s g own k) (S':SOk p nb s') (hlow: ∀a,a<zU p→ld s'.M a=ld s.M a) (L':LI p nb s'.M (zU p) (zD p) F E own')
  (hv:xh (ld s'.M (zU p))≤k+1∧xh (ld s'.M (zD p))≤k+1):SX p nb s' {g with F:=F,E:=E} own' (k+1) :=
 ⟨S',L',fun w h1 h2=>(X.D w h1 h2).keep hp (fun a h3 h4=>hlow a (by have:=uV hp h1 h2;omega)),hv,fun w h1 h2=>by have:=X.dk w h1 h2;show g.t w+(g.D w).length≤_;omega⟩
theorem FX.chain {p:zb} (hp:zC p) {nb:Nat} {Y:List Int} {O:Int→Prop} {s s':za} {g:Gh} {F E:List Int} (M:Mv p nb Y s.M s'.M) (hb:s'.Bins=s.Bins) (hlow: ∀a,a<zU p→ld s'.M a=ld s.M a) (hF: ∀y∈F,y∈g.F∨xe s' y≠[]):FX p nb Y O s s' g {g with F:=F,E:=E} :=
 ⟨M,fun _ _ _=>by rw [hb],fun w h1 h2=> .inl (.same rfl rfl rfl (fun a h3 h4=>hlow a (by have:=uV hp h1 h2;omega))),hF⟩
theorem SX.popE {p:zb} (hp:zC p) {nb k:Nat} {s:za} {g:Gh} {own:List Int} (X:SX p nb s g own k) (hk:k<4294960000) {c:zx} (kd:c.Kind=2) (hh:c.Head=zD p) (hN:c.Next=zD p) (ho:c.Out=0) (hpc:0≤c.PC∧c.PC≤2) (K:CK p s.M c)
  (hn:1≤c.PC→1≤yo c.H∧yo c.H<nb) (S':SOk p nb {s with M:=(zj s.M c).1}) :
  ((zj s.M c).1=s.M∧(zj s.M c).2.Out≠1∧CK p s.M (zj s.M c).2∧((zj s.M c).2.Out=2→g.E=[])) ∨
  (∃x l,g.E=x::l∧(zj s.M c).2.Out=1∧(zj s.M c).2.X=x∧SX p nb {s with M:=(zj s.M c).1} {g with E:=l} (x::own) (k+1)∧∀Y O,FX p nb Y O s {s with M:=(zj s.M c).1} g {g with E:=l}):=by
 have hE:=xx hp
 have hnb:=X.S.nbk
 have hv:=X.v
 have hcells:=fun a (ha:a≠c.Head)=>zjy s.M kd ha
 rcases zrr hp hnb.2 (L:=X.L.swap) kd hh hN ho hpc K hn (by omega) with ⟨a,b,e,d⟩ | ⟨x,l,a,b,e,d,f,v1,v2⟩
 ·exact .inl ⟨a,b,d,e⟩
 ·refine .inr ⟨x,l,a,b,e,X.chain hp S' (fun a ha=>hcells a (by omega)) d.swap ?_,fun Y O=>FX.chain hp (f.weak Y) rfl (fun a ha=>hcells a (by omega)) (fun _ h=> .inl h)⟩
  rw [v2,v1];omega
theorem SX.popF {p:zb} (hp:zC p) {nb k:Nat} {s:za} {g:Gh} {own:List Int} (X:SX p nb s g own k) (hk:k<4294960000) {c:zx} (kd:c.Kind=2) (hh:c.Head=zU p) (hN:c.Next=zD p) (ho:c.Out=0) (hpc:0≤c.PC∧c.PC≤2) (K:CK p s.M c)
  (hn:1≤c.PC→1≤yo c.H∧yo c.H<nb) (S':SOk p nb {s with M:=(zj s.M c).1}) :
  ((zj s.M c).1=s.M∧(zj s.M c).2.Out≠1∧CK p s.M (zj s.M c).2∧((zj s.M c).2.Out=2→g.F=[])) ∨
  (∃x l,g.F=x::l∧(zj s.M c).2.Out=1∧(zj s.M c).2.X=x∧SX p nb {s with M:=(zj s.M c).1} {g with F:=l} (x::own) (k+1)∧∀Y O,FX p nb Y O s {s with M:=(zj s.M c).1} g {g with F:=l}):=by
 have hE:=xx hp
 have hnb:=X.S.nbk
 have hv:=X.v
 have hcells:=fun a (ha:a≠c.Head)=>zjy s.M kd ha
 rcases zrr hp hnb.2 (L:=X.L) kd hh hN ho hpc K hn (by omega) with ⟨a,b,e,d⟩ | ⟨x,l,a,b,e,d,f,v1,v2⟩
 ·exact .inl ⟨a,b,d,e⟩
 ·refine .inr ⟨x,l,a,b,e,X.chain hp S' (fun a ha=>hcells a (by omega)) d ?_,fun Y O=>FX.chain hp (f.weak Y) rfl (fun a ha=>hcells a (by omega)) (fun y hy=> .inl (by rw [a];exact List.mem_cons_of_mem _ hy))⟩
  rw [v2,v1];omega
theorem SX.pushF {p:zb} (hp:zC p) {nb k:Nat} {s:za} {g:Gh} {o1 o2:List Int} {b:Int} (X:SX p nb s g (o1++b::o2) k) (hk:k<4294960000) {c:zx} (kd:c.Kind=1) (hh:c.Head=zU p) (hN:c.Next=zD p) (hX:c.X=b) (ho:c.Out=0) (hpc:0≤c.PC∧c.PC≤2) (K:CK p s.M c)
  (hn:1≤c.PC→yo c.H<nb) (S':SOk p nb {s with M:=(zj s.M c).1}) :
  ((zj s.M c).2.Out=0∧SX p nb {s with M:=(zj s.M c).1} g (o1++b::o2) (k+1)∧CK p (zj s.M c).1 (zj s.M c).2∧(∀Y O,b∈Y→FX p nb Y O s {s with M:=(zj s.M c).1} g g)) ∨
  ((zj s.M c).2.Out=1∧SX p nb {s with M:=(zj s.M c).1} {g with F:=b::g.F} (o1++o2) (k+1)∧(∀Y O,xe s b≠[]→FX p nb Y O s {s with M:=(zj s.M c).1} g {g with F:=b::g.F})):=by
 have hE:=xx hp
 have hnb:=X.S.nbk
 have hv:=X.v
 rcases zo9 hp hnb.2 (L:=X.L) kd hh hN hX ho hpc K hn (by omega) with ⟨a,l,d,e,f⟩ | ⟨a,l,d,e,f⟩
 ·refine .inl ⟨a,X.chain hp S' (fun a ha=>f a (by omega)) l ?_,e,fun Y O hb=>FX.chain hp (d.grow (fun x hx=>by rw [List.mem_singleton.1 hx];exact hb)) rfl (fun a ha=>f a (by omega)) (fun _ h=> .inl h)⟩
  show xh (ld (zj s.M c).1 (zU p))≤_∧xh (ld (zj s.M c).1 (zD p))≤_
  rw [f _ (by omega),f _ (by omega)];omega
 ·refine .inr ⟨a,X.chain hp S' (fun a ha=>f a (by omega) (by omega)) l ?_,fun Y O hb=>FX.chain hp (d.weak Y) rfl (fun a ha=>f a (by omega) (by omega)) (fun y hy=>(List.mem_cons.1 hy).elim (fun e=> .inr (by rw [e];exact hb)) .inl)⟩
  show xh (ld (zj s.M c).1 (zU p))≤_∧xh (ld (zj s.M c).1 (zD p))≤_
  have f':=f (zD p) (by omega) (by omega)
  rw [f'];omega
theorem SX.pushE {p:zb} (hp:zC p) {nb k:Nat} {s:za} {g:Gh} {o1 o2:List Int} {b:Int} (X:SX p nb s g (o1++b::o2) k) (hk:k<4294960000) {c:zx} (kd:c.Kind=1) (hh:c.Head=zD p) (hN:c.Next=zD p) (hX:c.X=b) (ho:c.Out=0) (hpc:0≤c.PC∧c.PC≤2) (K:CK p s.M c)
  (hn:1≤c.PC→yo c.H<nb) (S':SOk p nb {s with M:=(zj s.M c).1}) :
  ((zj s.M c).2.Out=0∧SX p nb {s with M:=(zj s.M c).1} g (o1++b::o2) (k+1)∧CK p (zj s.M c).1 (zj s.M c).2∧(∀Y O,b∈Y→FX p nb Y O s {s with M:=(zj s.M c).1} g g)) ∨
  ((zj s.M c).2.Out=1∧SX p nb {s with M:=(zj s.M c).1} {g with E:=b::g.E} (o1++o2) (k+1)∧(∀Y O,FX p nb Y O s {s with M:=(zj s.M c).1} g {g with E:=b::g.E})):=by
 have hE:=xx hp
 have hnb:=X.S.nbk
 have hv:=X.v
 rcases zo9 hp hnb.2 (L:=X.L.swap) kd hh hN hX ho hpc K hn (by omega) with ⟨a,l,d,e,f⟩ | ⟨a,l,d,e,f⟩
 ·refine .inl ⟨a,X.chain hp S' (fun a ha=>f a (by omega)) l.swap ?_,e,fun Y O hb=>FX.chain hp (d.grow (fun x hx=>by rw [List.mem_singleton.1 hx];exact hb)) rfl (fun a ha=>f a (by omega)) (fun _ h=> .inl h)⟩
  show xh (ld (zj s.M c).1 (zU p))≤_∧xh (ld (zj s.M c).1 (zD p))≤_
  rw [f _ (by omega),f _ (by omega)];omega
 ·refine .inr ⟨a,X.chain hp S' (fun a ha=>f a (by omega) (by omega)) l.swap ?_,fun Y O=>FX.chain hp (d.weak Y) rfl (fun a ha=>f a (by omega) (by omega)) (fun _ h=> .inl h)⟩
  show xh (ld (zj s.M c).1 (zU p))≤_∧xh (ld (zj s.M c).1 (zD p))≤_
  have f':=f (zU p) (by omega) (by omega)
  rw [f'];omega
end
end Go.Pe.G
namespace Go.Pe.G
open Go.Pe
noncomputable section
theorem zyg {p:zb} {s:za} {g:Gh} {b:Int}:yy p s {g with F:=b::g.F}=xe s b++yy p s g:=by
 unfold yy;simp [List.append_assoc]
theorem zye {p:zb} {s:za} {g:Gh} {l:List Int}:yy p s {g with E:=l}=yy p s g:=rfl
theorem zvk {l:List Int} {t:Nat} {x:Int}:Dv t l t (l++[x]):=⟨Nat.le_refl _,fun _ h=>⟨by simp,by cases l with | nil=>exact absurd rfl h | cons a l=>rfl⟩⟩
theorem zsZ {p:zb} (hp:zC p) {nb k:Nat} {R:List Int} {gh:Gh} {s:za} {g:zA} (hk:k<4294960000) (X:SX p nb s gh (xK g++R) k) (M:MOk p nb g) (h5o:g.PC=5→g.C.Out≠1) (G:GX p s gh g) :
  zkC p nb k R gh s g (zp s g).1 (zp s g).2:=by
 have S':=(zkG hp X.S M h5o).1
 have hP:=X.S.P
 have hpc:=G.pc
 have hmd:=G.md
 have hob:=G.ob
 revert S'
 unfold zp
 by_cases h0:g.Out=0
 rotate_left
 ·rw [if_pos (.inl h0)]
  intro S'
  exact .quiet X S' rfl rfl rfl rfl rfl G.c0 G
 rw [if_neg (by omega)]
 have hc0:g.Mode=1→gh.c g.Who=0:=fun h=>G.c0 h h0
 by_cases p7:g.PC=7
 ·rw [if_pos p7]
  obtain ⟨c1,c2,c3,c4,c5⟩:=G.c7 p7 h0
  obtain ⟨m1,m2,m3,m4,m5⟩:=M.c7 p7
  have eo:xK g=[g.Bin]:=zfV h0 (.inr p7)
  have eh:yM g=[g.Obj]:=vw h0 (by omega) (by omega)
  rw [eo] at X
  intro S'
  have S':SOk p nb {s with M:=(zj s.M g.C).1}:=S'
  unfold zaG
  dsimp only
  rcases SX.pushF hp (o1:=[]) (o2:=R) (b:=g.Bin) X hk m1 m2 m3 c3 c1 c2 c4 m5 S' with ⟨a,b,c,d⟩ | ⟨a,b,d⟩
  ·rw [a]
   rw [if_neg (by decide)]
   have hout:=Wa s.M c1 c2 (.inl m1)
   have hsame:=zhD s.M g.C
   have hpc':0≤(zj s.M g.C).2.PC∧(zj s.M g.C).2.PC≤2:=by omega
   refine ⟨gh,by rw [show xK {g with C:=(zj s.M g.C).2}=[g.Bin] from zfV h0 (.inr p7)];exact b,?_,by rw [eo];exact d _ _ (by simp),fun h _=>hc0 h,fun _ h=> .inl h,[],?_,.inl ⟨rfl,rfl⟩⟩
   ·exact ⟨.inl h0,hpc,hmd,hob,fun h _=>hc0 h,fun e=>by have e:g.PC=5:=e;omega,fun _ _=>⟨a,hpc',(hsame.2.2.2 m1).trans c3,c,c5⟩,fun e=>by have e:g.PC=3:=e;omega⟩
   ·rw [ZB rfl,show yM {g with C:=(zj s.M g.C).2}=[g.Obj] from vw h0 (by show (3:Int)≤g.PC;omega) (by show g.PC≤7;omega),eh]
    exact List.Perm.refl _
  ·rw [a,if_pos rfl]
   have e1:xK {g with C:=(zj s.M g.C).2,Out:=1}=[]:=wN (.inl (by show (1:Int)≠0;decide))
   have e2:yM {g with C:=(zj s.M g.C).2,Out:=1}=[]:=u5 (.inl (by show (1:Int)≠0;decide))
   refine ⟨{gh with F:=g.Bin::gh.F},by rw [e1];exact b,?_,by rw [eo];exact d _ _ (by unfold xe;rw [c5];exact List.cons_ne_nil _ _),fun h _=>hc0 h,fun y hy=>(List.mem_cons.1 hy).elim (fun e=> .inr (by rw [e];unfold xe;rw [show ({s with M:=(zj s.M g.C).1}:za).Bins=s.Bins from rfl,c5];exact List.cons_ne_nil _ _)) .inl,[],?_,.inl ⟨rfl,rfl⟩⟩
   ·exact GX.plain (.inr rfl) hpc hmd hob (fun _ e=>by cases e) (.inl (by show (1:Int)≠0;decide))
   ·rw [e2,eh,zyg,ZB rfl,List.append_nil]
    have:xe {s with M:=(zj s.M g.C).1} g.Bin=[g.Obj]:=by unfold xe;rw [show ({s with M:=(zj s.M g.C).1}:za).Bins=s.Bins from rfl,c5];rfl
    rw [this]
    exact List.perm_append_comm
 rw [if_neg p7]
 by_cases p6:g.PC=6
 ·rw [if_pos p6]
  have eo:xK g=[g.Bin]:=zfV h0 (.inl p6)
  have eh:yM g=[g.Obj]:=vw h0 (by omega) (by omega)
  have hb:=M.b6 p6
  have hbl:=X.S.bins
  intro S'
  unfold znK
  unfold znK at S'
  have e1:xK {g with PC:=7,C:=⟨1,0,zU s.P,zD s.P,0#64,g.Bin,0,0⟩}=[g.Bin]:=zfV h0 (.inr rfl)
  have hget: ∀b,1≤b→b∉xK g→(s.Bins.set g.Bin.toNat [g.Obj])[b.toNat]? =s.Bins[b.toNat]? :=fun b b1 b2=>by
   rw [List.getElem?_set_ne]
   intro e
   rw [eo] at b2
   exact b2 (by rw [show b=g.Bin by omega];simp)
  refine ⟨gh,by rw [e1,←eo];exact X.quiet S' rfl,?_,FX.quiet rfl hget,fun h _=>hc0 h,fun _ h=> .inl h,[],?_,.inl ⟨rfl,rfl⟩⟩
  ·refine ⟨.inl h0,⟨by show (0:Int)≤7;decide,by show (7:Int)≤7;decide⟩,hmd,hob,fun h _=>hc0 h,fun e=>absurd e (by show ¬(7:Int)=5;decide),fun _ _=>⟨rfl,⟨by show (0:Int)≤0;decide,by show (0:Int)≤2;decide⟩,rfl,⟨fun e=>absurd e (by show ¬(1:Int)≤0;decide),fun e=>absurd e (by show ¬(0:Int)=2;decide),fun e=>absurd e (by show ¬(0:Int)=2;decide)⟩,?_⟩,fun e=>absurd e (by show ¬(7:Int)=3;decide)⟩
   show (s.Bins.set g.Bin.toNat [g.Obj])[g.Bin.toNat]? =_
   rw [List.getElem?_set_self (by omega)]
  ·rw [show yM {g with PC:=7,C:=⟨1,0,zU s.P,zD s.P,0#64,g.Bin,0,0⟩}=[g.Obj] from vw h0 (by show (3:Int)≤7;decide) (by show (7:Int)≤7;decide),eh]
   have:yy p {s with Bins:=s.Bins.set g.Bin.toNat [g.Obj]} gh=yy p s gh:=by
    unfold yy
    congr 1
    refine vb (fun b hb=> ?_)
    have hm:=X.L.cF.mem b hb
    have hno:=(X.L.notF (x:=g.Bin) (by rw [eo];simp)).1
    unfold xe
    rw [show ({s with Bins:=s.Bins.set g.Bin.toNat [g.Obj]}:za).Bins=s.Bins.set g.Bin.toNat [g.Obj] from rfl,hget b hm.1 (by rw [eo];intro e;rw [List.mem_singleton.1 e] at hb;exact hno hb)]
   rw [this];exact List.Perm.refl _
 rw [if_neg p6]
 have eo:xK g=[]:=wN (.inr ⟨p6,p7⟩)
 by_cases p5:g.PC=5
 ·rw [if_pos p5]
  obtain ⟨c1,c2,c3⟩:=G.c5 p5 h0
  obtain ⟨m1,m2,m3,m4,m5⟩:=M.c5 p5
  have eh:yM g=[g.Obj]:=vw h0 (by omega) (by omega)
  intro S'
  have S':SOk p nb {s with M:=(zj s.M g.C).1}:=S'
  unfold zgl
  dsimp only
  rcases SX.popE hp X hk m1 m2 m3 c1 c2 c3 m4 S' with ⟨a,b,c,d⟩ | ⟨x,l,a,b,c,d,e⟩
  ·rw [if_neg b]
   have hout:=Wa s.M c1 c2 (.inr m1)
   by_cases o2:(zj s.M g.C).2.Out=2
   ·rw [if_pos o2]
    refine .quiet X S' a rfl rfl ?_ ?_ G.c0 (GX.ask h0 hmd hob hc0 _)
    ·rw [eo];exact wN (.inr ⟨by show (5:Int)≠6;decide,by show (5:Int)≠7;decide⟩)
    ·rw [eh];exact vw h0 (by show (3:Int)≤5;decide) (by show (5:Int)≤7;decide)
   ·rw [if_neg o2]
    have hpc':(zj s.M g.C).2.Out=0∧0≤(zj s.M g.C).2.PC∧(zj s.M g.C).2.PC≤2:=by omega
    refine .quiet X S' a rfl rfl ?_ ?_ G.c0 ⟨.inl h0,hpc,hmd,hob,G.c0,fun _ _=>⟨hpc'.1,hpc'.2,by rw [show ({s with M:=(zj s.M g.C).1}:za).M=s.M from a];exact c⟩,fun e=>by have e:g.PC=7:=e;omega,fun e=>by have e:g.PC=3:=e;omega⟩
    ·rw [eo];exact wN (.inr ⟨p6,p7⟩)
    ·rw [eh];exact vw h0 (by show (3:Int)≤g.PC;omega) (by show g.PC≤7;omega)
  ·rw [if_pos b]
   have e1:xK {g with PC:=6,C:=(zj s.M g.C).2,Bin:=(zj s.M g.C).2.X}=[x]:=by rw [←c];exact zfV (g:={g with PC:=6,C:=(zj s.M g.C).2,Bin:=(zj s.M g.C).2.X}) h0 (.inl rfl)
   refine ⟨{gh with E:=l},by rw [e1];rw [eo] at d;exact d,?_,e _ _,fun h _=>hc0 h,fun _ h=> .inl h,[],?_,.inl ⟨rfl,rfl⟩⟩
   ·exact GX.plain (.inl h0) ⟨by show (0:Int)≤6;decide,by show (6:Int)≤7;decide⟩ hmd hob (fun h _=>hc0 h) (.inr ⟨by show (6:Int)≠3;decide,by show (6:Int)≠5;decide,by show (6:Int)≠7;decide⟩)
   ·rw [zye,ZB rfl,eh,show yM {g with PC:=6,C:=(zj s.M g.C).2,Bin:=(zj s.M g.C).2.X}=[g.Obj] from vw h0 (by show (3:Int)≤6;decide) (by show (6:Int)≤7;decide)]
    exact List.Perm.refl _
 rw [if_neg p5]
 by_cases p4:g.PC=4
 ·rw [if_pos p4]
  intro S'
  refine .quiet X S' rfl rfl rfl ?_ ?_ G.c0 (GX.ask h0 hmd hob hc0 _)
  ·rw [eo];exact wN (.inr ⟨by show (5:Int)≠6;decide,by show (5:Int)≠7;decide⟩)
  ·rw [vw h0 (by omega) (by omega)];exact vw h0 (by show (3:Int)≤5;decide) (by show (5:Int)≤7;decide)
 rw [if_neg p4]
 by_cases p3:g.PC=3
 ·rw [if_pos p3]
  obtain ⟨c1,c2,c3⟩:=G.d3 p3 h0
  have hw:=M.who c1
  have eh:yM g=[g.Obj]:=vw h0 (by omega) (by omega)
  have hdk:=X.dk g.Who hw.1 hw.2
  have hlen:=X.L.len
  have hE:=xx hp
  have hc00:=c3.c0
  have c3':=c3
  rw [hc00] at c3'
  have D0:=X.D g.Who hw.1 hw.2
  rw [hc00] at D0
  obtain ⟨a,b,r⟩:=zpH hp hw (by omega) D0 c3' (by omega) (by rw [c2];omega)
  intro S'
  have S':SOk p nb {s with M:=(yL s.M g.D).1}:=S'
  unfold zgj
  dsimp only
  rcases r with ⟨r1,r2,r3⟩ | ⟨r1,r2⟩ | ⟨r1,r2⟩
  ·rw [r1,if_neg (by decide),if_neg (by decide)]
   have e1:xK {g with D:=(yL s.M g.D).2}=[]:=wN (.inr ⟨p6,p7⟩)
   refine ⟨XM gh g.Who (gh.t g.Who) (gh.D g.Who) 0,?_,?_,FX.own (O:=zpV g) (s:=s) (s':={s with M:=(yL s.M g.D).1}) (g:=gh) hp hw a rfl ⟨c1,rfl⟩ (Dv.refl _ _),fun _ _=>wq.2.2,fun _ h=> .inl h,[],?_,.inl ⟨rfl,rfl⟩⟩
   ·rw [e1];rw [eo] at X;exact X.dq hp S' (zed _ _) hw a r2 (by omega)
   ·refine ⟨.inl h0,hpc,hmd,hob,fun _ _=>wq.2.2,fun e=>by have e:g.PC=5:=e;omega,fun e=>by have e:g.PC=7:=e;omega,fun _ _=>⟨c1,b.trans c2,?_⟩⟩
    show DK p (yL s.M g.D).1 g.Who ((XM gh g.Who (gh.t g.Who) (gh.D g.Who) 0).t g.Who) _ _ _
    rw [wq.1,wq.2.1,wq.2.2];exact r3
   ·obtain ⟨u,v,f1,f2⟩:=zku (p:=p) (s:=s) (s':={s with M:=(yL s.M g.D).1}) (g:=gh) rfl hw (t:=gh.t g.Who) (c:=0) (l:=gh.D g.Who)
    rw [f1,f2,eh,show yM {g with D:=(yL s.M g.D).2}=[g.Obj] from vw h0 (by show (3:Int)≤g.PC;omega) (by show g.PC≤7;omega)]
    exact List.Perm.refl _
  ·rw [r1,if_neg (by decide),if_pos rfl]
   have e1:xK (zfB s.P {g with D:=(yL s.M g.D).2})=[]:=wN (.inr ⟨by show (5:Int)≠6;decide,by show (5:Int)≠7;decide⟩)
   refine ⟨XM gh g.Who (gh.t g.Who) (gh.D g.Who) 0,?_,?_,FX.own (O:=zpV g) (s:=s) (s':={s with M:=(yL s.M g.D).1}) (g:=gh) hp hw a rfl ⟨c1,rfl⟩ (Dv.refl _ _),fun _ _=>wq.2.2,fun _ h=> .inl h,[],?_,.inl ⟨rfl,rfl⟩⟩
   ·rw [e1];rw [eo] at X;exact X.dq hp S' (zed _ _) hw a r2 (by omega)
   ·exact GX.ask (g:={g with D:=(yL s.M g.D).2}) h0 hmd hob (fun _=>wq.2.2) _
   ·obtain ⟨u,v,f1,f2⟩:=zku (p:=p) (s:=s) (s':={s with M:=(yL s.M g.D).1}) (g:=gh) rfl hw (t:=gh.t g.Who) (c:=0) (l:=gh.D g.Who)
    rw [f1,f2,eh,show yM (zfB s.P {g with D:=(yL s.M g.D).2})=[g.Obj] from vw h0 (by show (3:Int)≤5;decide) (by show (5:Int)≤7;decide)]
    exact List.Perm.refl _
  ·rw [r1,if_pos rfl]
   have e1:xK {g with D:=(yL s.M g.D).2,Out:=1}=[]:=wN (.inl (by show (1:Int)≠0;decide))
   refine ⟨XM gh g.Who (gh.t g.Who) (gh.D g.Who++[g.D.X]) 0,?_,?_,FX.own (O:=zpV g) (s:=s) (s':={s with M:=(yL s.M g.D).1}) (g:=gh) hp hw a rfl ⟨c1,rfl⟩ zvk,fun _ _=>wq.2.2,fun _ h=> .inl h,[],?_,.inl ⟨rfl,rfl⟩⟩
   ·rw [e1];rw [eo] at X;exact X.dq hp S' (zed _ _) hw a r2 (by rw [List.length_append,List.length_singleton];omega)
   ·exact GX.plain (.inr rfl) hpc hmd hob (fun _ e=>by cases e) (.inl (by show (1:Int)≠0;decide))
   ·obtain ⟨u,v,f1,f2⟩:=zku (p:=p) (s:=s) (s':={s with M:=(yL s.M g.D).1}) (g:=gh) rfl hw (t:=gh.t g.Who) (c:=0) (l:=gh.D g.Who++[g.D.X])
    rw [f1,f2,eh,show yM {g with D:=(yL s.M g.D).2,Out:=1}=[] from u5 (.inl (by show (1:Int)≠0;decide)),c2,List.append_nil,List.nil_append]
    simp only [List.append_assoc]
    refine List.Perm.append_left _ (List.Perm.append_left _ ?_)
    exact List.perm_append_comm
 rw [if_neg p3]
 by_cases p2:g.PC=2
 ·rw [if_pos p2]
  intro S'
  refine .quiet X S' rfl rfl rfl ?_ ?_ G.c0 (GX.plain (.inr rfl) hpc hmd hob (fun _ e=>by cases e) (.inl (by show (1:Int)≠0;decide)))
  ·rw [eo];exact wN (.inl (by show (1:Int)≠0;decide))
  ·rw [u5 (g:=g) (.inr (.inl (by omega)))];exact u5 (.inl (by show (1:Int)≠0;decide))
 rw [if_neg p2]
 by_cases p1:g.PC=1
 ·rw [if_pos p1]
  have eh:yM g=[]:=u5 (.inr (.inl (by omega)))
  intro S'
  unfold zgv
  unfold zgv at S'
  dsimp only at S' ⊢
  by_cases hs:(uw s.T g.Obj).2=false
  ·have eT:(uw s.T g.Obj).1=s.T:=by
    unfold uw at hs ⊢
    split at hs
    ·rename_i h1;rw [if_pos h1]
    ·rename_i h1
     split at hs
     ·cases hs
     ·rename_i h2;rw [if_neg h1,if_neg h2]
   rw [if_pos hs]
   refine .quiet X S' rfl rfl eT ?_ ?_ G.c0 (GX.plain (.inl h0) ⟨by show (0:Int)≤2;decide,by show (2:Int)≤7;decide⟩ hmd hob G.c0 (.inr ⟨by show (2:Int)≠3;decide,by show (2:Int)≠5;decide,by show (2:Int)≠7;decide⟩))
   ·rw [eo];exact wN (.inr ⟨by show (2:Int)≠6;decide,by show (2:Int)≠7;decide⟩)
   ·rw [eh];exact u5 (.inr (.inl (by show (2:Int)<3;decide)))
  ·have eT: ¬(s.T.Marks|||bit g.Obj=s.T.Marks)∧(uw s.T g.Obj).1={s.T with Marks:=s.T.Marks|||bit g.Obj}:=by
    unfold uw at hs ⊢
    split at hs
    ·exact absurd rfl hs
    ·rename_i h1
     split at hs
     ·rename_i h2;exact ⟨h1,by rw [if_neg h1,if_pos h2]⟩
     ·exact absurd rfl hs
   rw [if_neg hs]
   have fin: ∀g':zA,xK g'=[]→yM g'=[g.Obj]→GX p {s with T:=(uw s.T g.Obj).1} gh g'→zkC p nb k R gh s g {s with T:=(uw s.T g.Obj).1} g':=fun g' a b c =>
    ⟨gh,by rw [a,←eo];exact X.quiet S' rfl,c,FX.quiet rfl (fun _ _ _=>rfl),fun h _=>hc0 h,fun _ h=> .inl h,[g.Obj],by rw [ZB rfl,b,eh,List.append_nil];exact List.perm_append_comm,.inr ⟨rfl,eT.1,eT.2⟩⟩
   by_cases q1:g.Mode=1
   ·rw [if_pos q1]
    have hw:=M.who q1
    refine fin _ (wN (.inr ⟨by show (3:Int)≠6;decide,by show (3:Int)≠7;decide⟩)) (vw h0 (by show (3:Int)≤3;decide) (by show (3:Int)≤7;decide))
     ⟨.inl h0,⟨by show (0:Int)≤3;decide,by show (3:Int)≤7;decide⟩,hmd,hob,G.c0,fun e=>absurd e (by show ¬(3:Int)=5;decide),fun e=>absurd e (by show ¬(3:Int)=7;decide),fun _ _=>⟨q1,rfl,⟨rfl,by rw [hP],by rw [hP],rfl,hc0 q1,⟨by show (0:Int)≤0;decide,by show (0:Int)≤3;decide⟩,fun e=>absurd e (by show ¬(1:Int)≤0;decide),fun e=>absurd e (by show ¬(2:Int)≤0;decide),fun e=>absurd e (by show ¬(3:Int)≤0;decide)⟩⟩⟩
   rw [if_neg q1]
   by_cases q2:g.Mode=2
   ·rw [if_pos q2]
    exact fin _ (wN (.inr ⟨by show (4:Int)≠6;decide,by show (4:Int)≠7;decide⟩)) (vw h0 (by show (3:Int)≤4;decide) (by show (4:Int)≤7;decide))
     (GX.plain (.inl h0) ⟨by show (0:Int)≤4;decide,by show (4:Int)≤7;decide⟩ hmd hob G.c0 (.inr ⟨by show (4:Int)≠3;decide,by show (4:Int)≠5;decide,by show (4:Int)≠7;decide⟩))
   ·rw [if_neg q2]
    exact fin _ (wN (.inr ⟨by show (5:Int)≠6;decide,by show (5:Int)≠7;decide⟩)) (vw h0 (by show (3:Int)≤5;decide) (by show (5:Int)≤7;decide)) (GX.ask h0 hmd hob hc0 _)
 ·rw [if_neg p1]
  intro S'
  refine .quiet X S' rfl rfl rfl ?_ ?_ G.c0 (GX.plain (.inl h0) ⟨by show (0:Int)≤1;decide,by show (1:Int)≤7;decide⟩ hmd hob G.c0 (.inr ⟨by show (1:Int)≠3;decide,by show (1:Int)≠5;decide,by show (1:Int)≠7;decide⟩))
  ·rw [eo];exact wN (.inr ⟨by show (1:Int)≠6;decide,by show (1:Int)≠7;decide⟩)
  ·rw [u5 (g:=g) (.inr (.inl (by omega)))];exact u5 (.inr (.inl (by show (1:Int)<3;decide)))
end
end Go.Pe.G
namespace Go.Pe.G
open Go.Pe
noncomputable section
def xJ (x:ze):List Int:=if x.PC=3∨x.PC=4 then [x.Bin] else if x.PC=6 then xK x.G else []
def VU (s:za) (x:ze):List Int:=if x.PC=0 then Xl s.M x.D else if x.PC=3 then xe s x.Bin else if x.PC=5∨x.PC=8 then [x.Obj] else if x.PC=6 then x.Obj::yM x.G else []
def zN (s:za) (x:ze):List Int:=x.Batch++VU s x
structure WX (p:zb) (s:za) (gh:Gh) (w:Int) (x:ze):Prop where
 c0:x.PC≠0→gh.c w=0
 bt:x.PC≤3→x.Batch=[]
 p0:x.PC=0→PK p s.M w (gh.t w) (gh.D w) (gh.c w) x.D
 p1:x.PC=1→TK p s.M x.Victim (gh.t x.Victim) (gh.D x.Victim) x.D
 p2:x.PC=2→x.C.Out=0∧(0≤x.C.PC∧x.C.PC≤2)∧CK p s.M x.C
 p4:x.PC=4→x.C.Out=0∧(0≤x.C.PC∧x.C.PC≤2)∧x.C.X=x.Bin∧CK p s.M x.C
 p6:x.PC=6→GX p s gh x.G∧x.G.Mode=1∧x.G.Who=w∧x.G.Out=0
theorem WX.plain {p:zb} {s:za} {gh:Gh} {w:Int} {x:ze} (h:x.PC=5∨x.PC=7∨x.PC=8∨x.PC=9) (c:gh.c w=0):WX p s gh w x :=
 ⟨fun _=>c,fun e=>by omega,fun e=>by omega,fun e=>by omega,fun e=>by omega,fun e=>by omega,fun e=>by omega⟩
theorem CK.start {p:zb} {m:List (BitVec 64)} {k h x:Int}:CK p m ⟨k,0,h,zD p,0#64,x,0,0⟩ :=
 ⟨fun e=>absurd e (by show ¬(1:Int)≤0;decide),fun e=>absurd e (by show ¬(0:Int)=2;decide),fun e=>absurd e (by show ¬(0:Int)=2;decide)⟩
theorem WX.begin {p:zb} {s:za} {gh:Gh} {w:Int} {x:ze} (c:gh.c w=0) (hb:x.Batch=[]):WX p s gh w (X3 p w x):=by
 refine ⟨fun e=>absurd rfl e,fun _=>hb,fun _=>⟨rfl,rfl,rfl,rfl,⟨by show (0:Int)≤0;decide,by show (0:Int)≤6;decide⟩,fun _=>c,?_,?_,?_,?_,?_,?_,?_,?_⟩,fun e=>(by cases e),fun e=>(by cases e),fun e=>(by cases e),fun e=>(by cases e)⟩
 all_goals (intro e;first | (exact absurd e (by show ¬((0:Int)=2∨(4:Int)≤0);decide)) | (exact absurd e (by show ¬(0:Int)=3;decide)) | (exact absurd e (by show ¬(0:Int)=4;decide)) | (exact absurd e (by show ¬((0:Int)=3∨(0:Int)=4);decide)) | (exact absurd e (by show ¬(5:Int)≤0;decide)) | skip)
 rcases e with e | e | e | e
 ·exact absurd e (by show ¬(0:Int)=1;decide)
 ·exact absurd e (by show ¬(0:Int)=2;decide)
 ·exact absurd e (by show ¬(4:Int)≤0;decide)
 ·exact absurd e.1 (by show ¬(0:Int)=3;decide)
theorem ziN {p:zb} {s:za} {w:Int} {x:ze}:VU s (X3 p w x)=[]:=by
 unfold VU
 rw [if_pos (show (X3 p w x).PC=0 from rfl)]
 exact vr (.inl (by show (0:Int)≠3;decide)) (by show (0:Int)≠6;decide)
theorem WX.look {p:zb} {s:za} {gh:Gh} {w:Int} {x:ze} (c:gh.c w=0) (hb:x.Batch=[]):WX p s gh w (vn p w x)∧VU s (vn p w x)=[]∧xJ (vn p w x)=[]:=by
 unfold vn
 split
 ·refine ⟨⟨fun _=>c,fun _=>hb,fun e=>(by cases e),fun e=>(by cases e),fun _=>⟨rfl,⟨by show (0:Int)≤0;decide,by show (0:Int)≤2;decide⟩,CK.start⟩,fun e=>(by cases e),fun e=>(by cases e)⟩,?_,?_⟩
  ·unfold VU;rw [if_neg (by show ¬(2:Int)=0;decide),if_neg (by show ¬(2:Int)=3;decide),if_neg (by show ¬((2:Int)=5∨(2:Int)=8);decide),if_neg (by show ¬(2:Int)=6;decide)]
  ·unfold xJ;rw [if_neg (by show ¬((2:Int)=3∨(2:Int)=4);decide),if_neg (by show ¬(2:Int)=6;decide)]
 ·refine ⟨⟨fun _=>c,fun _=>hb,fun e=>(by cases e),fun _=>⟨rfl,rfl,rfl,rfl,⟨by show (0:Int)≤0;decide,by show (0:Int)≤3;decide⟩,fun e=>absurd e (by show ¬(1:Int)≤0;decide),fun e=>absurd e (by show ¬(2:Int)≤0;decide),fun e=>absurd e (by show ¬(0:Int)=3;decide)⟩,fun e=>(by cases e),fun e=>(by cases e),fun e=>(by cases e)⟩,?_,?_⟩
  ·unfold VU;rw [if_neg (by show ¬(1:Int)=0;decide),if_neg (by show ¬(1:Int)=3;decide),if_neg (by show ¬((1:Int)=5∨(1:Int)=8);decide),if_neg (by show ¬(1:Int)=6;decide)]
  ·unfold xJ;rw [if_neg (by show ¬((1:Int)=3∨(1:Int)=4);decide),if_neg (by show ¬(1:Int)=6;decide)]
theorem WX.other {p:zb} (hp:zC p) {nb k:Nat} {s s':za} {gh gh':Gh} {X R:List Int} {O:Int→Prop} {w:Int} {x:ze} (hw:1≤w∧w≤p.Workers) (Y:SX p nb s gh (X++R) k) (Fx:FX p nb X O s s' gh gh') (K:WX p s gh w x) (W:WOk p nb w x)
  (hR: ∀b∈xJ x,b∈R) (apart: ¬O w):WX p s' gh' w x∧zN s' x=zN s x:=by
 have hsub: ∀b∈X,b∈X++R:=fun b hb=>List.mem_append_left _ hb
 have hnd:=(List.nodup_append.1 Y.L.nodup).2.1
 have hnot: ∀b,b∈xJ x→b∉X:=fun b hb hg=>(List.nodup_append.1 hnd).2.2 b hg b (hR b hb) rfl
 have hc:gh'.c w=gh.c w:=by
  rcases Fx.dq w hw.1 hw.2 with h | h
  ·cases h with
   | same e1 e2 e3 e4=>exact e3
   | stolen y e1 e2 e3 e4=>exact e3
  ·exact absurd h.1 apart
 have hcell: ∀a,zF p w<a→a<zF p w+p.Cap+2→ld s'.M a=ld s.M a:=by
  rcases Fx.dq w hw.1 hw.2 with h | h
  ·cases h with
   | same e1 e2 e3 e4=>exact fun a h1 h2=>e4 a (by omega) h2
   | stolen y e1 e2 e3 e4=>exact e4
  ·exact absurd h.1 apart
 refine ⟨⟨fun e=>hc.trans (K.c0 e),K.bt,fun e=>Fx.pk hp hw.1 hw.2 apart (K.p0 e),fun e=>Fx.tk W.vic.1 W.vic.2 (K.p1 e),fun e=> ?_,fun e=> ?_,fun e=> ?_⟩,?_⟩
 ·obtain ⟨a,b,c⟩:=K.p2 e
  have C:=W.c2 e
  exact ⟨a,b,c.mv Y.L Fx.mv hsub (.inl C.h) (fun h _=>C.v h) (fun e2=>by have:=C.k;omega)⟩
 ·obtain ⟨a,b,c,d⟩:=K.p4 e
  have C:=W.c4 e
  have hno:=hnot x.Bin (by unfold xJ;rw [if_pos (.inr e)];simp)
  exact ⟨a,b,c,d.mv Y.L Fx.mv hsub (.inr C.h) (fun _ e2=>by have:=C.k;omega) (fun _=>⟨C.x.1,C.x.2,by rw [c];exact hno⟩)⟩
 ·obtain ⟨a,b,c,d⟩:=K.p6 e
  have M:=(W.g6 e).1
  refine ⟨a.other hp Y Fx M (fun y hy=>hR y ?_) (fun _=>by rw [c];exact apart),b,c,d⟩
  unfold xJ;rw [if_neg (by omega),if_pos e];exact hy
 ·unfold zN VU
  congr 1
  by_cases e0:x.PC=0
  ·rw [if_pos e0,if_pos e0]
   have P:=K.p0 e0
   unfold Xl
   have hpl:=(zmd hp hw.1 hw.2 P.base P.size (x.D.B-1#64)).2
   rw [hcell _ (by rw [P.base] at hpl;omega) (by rw [P.base] at hpl;omega)]
  ·rw [if_neg e0,if_neg e0]
   by_cases e3:x.PC=3
   ·rw [if_pos e3,if_pos e3]
    have hb:=W.b3 e3
    have hno:=hnot x.Bin (by unfold xJ;rw [if_pos (.inl e3)];simp)
    unfold xe
    rw [Fx.bn x.Bin hb.1 hno]
   ·rw [if_neg e3,if_neg e3]
theorem ziW (s:za) (b:Int):ZS s b=xe s b:=by unfold ZS xe;rw [List.getD_eq_getElem?_getD]
theorem FX.mono {p:zb} {nb:Nat} {X:List Int} {O O':Int→Prop} {s s':za} {g g':Gh} (h:FX p nb X O s s' g g') (i: ∀v,O v→O' v):FX p nb X O' s s' g g' :=
 ⟨h.mv,h.bn,fun v a b=>(h.dq v a b).imp id (fun e=>⟨i v e.1,e.2⟩),h.fb⟩
theorem vP {x:ze} (h3:x.PC≠3) (h4:x.PC≠4) (h6:x.PC≠6):xJ x=[]:=by unfold xJ;rw [if_neg (by omega),if_neg h6]
theorem zeY {x:ze} (h:x.PC=3∨x.PC=4):xJ x=[x.Bin]:=by unfold xJ;rw [if_pos h]
theorem znL {x:ze} (h:x.PC=6):xJ x=xK x.G:=by unfold xJ;rw [if_neg (by omega),if_pos h]
theorem zue {s:za} {x:ze} (h:x.PC=0):VU s x=Xl s.M x.D:=by unfold VU;rw [if_pos h]
theorem zqk {s:za} {x:ze} (h:x.PC=3):VU s x=xe s x.Bin:=by unfold VU;rw [if_neg (by omega),if_pos h]
theorem Xt {s:za} {x:ze} (h:x.PC=5∨x.PC=8):VU s x=[x.Obj]:=by unfold VU;rw [if_neg (by omega),if_neg (by omega),if_pos h]
theorem znq {s:za} {x:ze} (h:x.PC=6):VU s x=x.Obj::yM x.G:=by unfold VU;rw [if_neg (by omega),if_neg (by omega),if_neg (by omega),if_pos h]
theorem ZN {s:za} {x:ze} (h:x.PC=1∨x.PC=2∨x.PC=4∨x.PC=7∨x.PC=9):VU s x=[]:=by unfold VU;rw [if_neg (by omega),if_neg (by omega),if_neg (by omega),if_neg (by omega)]
def zfP (p:zb) (nb k:Nat) (R:List Int) (gh:Gh) (s:za) (w:Int) (x:ze) (s':za) (x':ze):Prop :=
 ∃gh',SX p nb s' gh' (xJ x'++R) (k+1)∧WX p s' gh' w x'∧FX p nb (xJ x) (fun v=>v=w) s s' gh gh' ∧
  ∃N B,List.Perm (yy p s' gh'++zN s' x'++B) (N++(yy p s gh++zN s x)) ∧
   ((N=[]∧B=[]∧s'.T=s.T)∨(N=[x.G.Obj]∧B=[]∧x.PC=6∧¬(s.T.Marks|||bit x.G.Obj=s.T.Marks)∧s'.T={s.T with Marks:=s.T.Marks|||bit x.G.Obj})∨(N=[]∧B=[x.Obj]∧x.PC=8∧s'.T=wR s.T x.Obj))
theorem zfP.quiet {p:zb} {nb k:Nat} {R:List Int} {gh:Gh} {s s':za} {w:Int} {x x':ze} (X:SX p nb s gh (xJ x++R) k) (S':SOk p nb s') (hm:s'.M=s.M) (hb:s'.Bins=s.Bins) (hT:s'.T=s.T)
  (ho:xJ x'=xJ x) (hh:List.Perm (zN s' x') (zN s x)) (W':WX p s' gh w x'):zfP p nb k R gh s w x s' x' :=
 ⟨gh,by rw [ho];exact X.quiet S' hm,W',FX.quiet hm (fun _ _ _=>by rw [hb]),[],[],by rw [ZB hb,List.append_nil];exact List.Perm.append_left _ hh,.inl ⟨rfl,rfl,hT⟩⟩
theorem zwq {p:zb} (hp:zC p) {nb k:Nat} {R:List Int} {gh:Gh} {s:za} {w:Int} {x:ze} (hk:k<4294960000) (hw:1≤w∧w≤p.Workers) (X:SX p nb s gh (xJ x++R) k) (W:WOk p nb w x) (K:WX p s gh w x)
  (hH: ∀o i,0≤zM s.H o i∧zM s.H o i≤64):zfP p nb k R gh s w x (zh s w x).1 (zh s w x).2:=by
 have S':=(zsJ hp hw X.S W).1
 have hP:=X.S.P
 have eL: ∀y,vn s.P w y=vn p w y:=fun y=>by rw [hP]
 have eB: ∀y,X3 s.P w y=X3 p w y:=fun y=>by rw [hP]
 have eC:XD s.P (zD s.P) x.Bin=XD p (zD p) x.Bin:=by rw [hP]
 have hpc:=W.pc
 have hlen:=X.L.len
 have hE:=xx hp
 revert S'
 unfold zh
 by_cases p01:x.PC=0∨x.PC=1
 ·rw [if_pos p01]
  intro S'
  have S':SOk p nb {s with M:=(zL s.M x.D).1}:=S'
  have hl:=(zg4 s.M x.D).1
  have eo:xJ x=[]:=vP (by omega) (by omega) (by omega)
  have hbt:=K.bt (by omega)
  rw [eo] at X
  dsimp only
  by_cases p0:x.PC=0
  ·have K0:=K.p0 p0
   have D0:=X.D w hw.1 hw.2
   have hdk:=X.dk w hw.1 hw.2
   obtain ⟨t',l',c',D',hm,V,hle,r⟩:=zq3 hp hw (by omega) D0 K0
   have hc:=hp.cap
   have hm': ∀a,(a<zF p w∨zF p w+p.Cap+2≤a)→ld (zL s.M x.D).1 a=ld s.M a:=fun a ha=>hm a (by omega) (by omega)
   have X':=X.dq hp S' hl hw hm' D' (by omega)
   have Fx:FX p nb (xJ x) (fun v=>v=w) s {s with M:=(zL s.M x.D).1} gh (XM gh w t' l' c'):=FX.own (O:=fun v=>v=w) (s:=s) (s':={s with M:=(zL s.M x.D).1}) (g:=gh) hp hw hm' rfl rfl V
   obtain ⟨u,v,f1,f2⟩:=zku (p:=p) (s:=s) (s':={s with M:=(zL s.M x.D).1}) (g:=gh) rfl hw (t:=t') (c:=c') (l:=l')
   have fin: ∀x':ze,xJ x'=[]→WX p {s with M:=(zL s.M x.D).1} (XM gh w t' l' c') w x'→List.Perm (l'++zN {s with M:=(zL s.M x.D).1} x') (gh.D w++zN s x)→zfP p nb k R gh s w x {s with M:=(zL s.M x.D).1} x':=by
    intro x' a b c
    refine ⟨_,by rw [a];exact X',b,Fx,[],[],?_,.inl ⟨rfl,rfl,rfl⟩⟩
    rw [f1,f2,List.append_nil,List.nil_append]
    simp only [List.append_assoc]
    refine List.Perm.append_left _ ?_
    refine (List.perm_append_comm_assoc l' v _).trans (List.Perm.trans ?_ (List.perm_append_comm_assoc v (gh.D w) _))
    exact List.Perm.append_left _ c
   have hh:zN s x=Xl s.M x.D:=by unfold zN;rw [hbt,zue p0,List.nil_append]
   rw [hh] at fin
   rcases r with ⟨r1,r2,r3⟩ | ⟨r1,r2,r3⟩ | ⟨r1,r2,r3,r4,r5⟩
   ·rw [r1,if_neg (by decide),if_neg (by decide)]
    refine fin _ (vP (by show x.PC≠3;omega) (by show x.PC≠4;omega) (by show x.PC≠6;omega)) ⟨fun e=>absurd p0 e,fun _=>hbt,fun _=> ?_,fun e=>by have e:x.PC=1:=e;omega,fun e=>by have e:x.PC=2:=e;omega,fun e=>by have e:x.PC=4:=e;omega,fun e=>by have e:x.PC=6:=e;omega⟩ ?_
    ·rw [wq.1,wq.2.1,wq.2.2];exact r2
    ·unfold zN
     rw [zue (x:={x with D:=(zL s.M x.D).2}) p0]
     show List.Perm (l'++(x.Batch++Xl (zL s.M x.D).1 (zL s.M x.D).2)) _
     rw [hbt,List.nil_append];exact r3
   ·rw [r1,if_pos rfl]
    refine fin _ (vP (by show (5:Int)≠3;decide) (by show (5:Int)≠4;decide) (by show (5:Int)≠6;decide)) (WX.plain (.inl rfl) (by rw [wq.2.2];exact r2)) ?_
    unfold zN
    rw [Xt (.inl rfl)]
    show List.Perm (l'++(x.Batch++[(zL s.M x.D).2.X])) _
    rw [hbt,List.nil_append];exact r3
   ·rw [r1,if_neg (by decide),if_pos (.inl rfl),eL]
    obtain ⟨a,b,c⟩:=WX.look (p:=p) (s:={s with M:=(zL s.M x.D).1}) (gh:=XM gh w t' l' c') (w:=w) (x:={x with D:=(zL s.M x.D).2}) (by rw [wq.2.2];exact r2) hbt
    refine fin _ c a ?_
    unfold zN
    rw [b,r3,r4,r5,show (vn p w {x with D:=(zL s.M x.D).2}).Batch=x.Batch by unfold vn;split<;>rfl,hbt]
    exact List.Perm.refl _
  ·have p1:x.PC=1:=by omega
   have K1:=K.p1 p1
   have hv:=W.vic
   have hc0:=K.c0 p0
   have D0:=X.D x.Victim hv.1 hv.2
   have hdk:=X.dk x.Victim hv.1 hv.2
   have hh:zN s x=[]:=by unfold zN;rw [hbt,ZN (.inl p1)];rfl
   rcases zs9 hp hv (by omega) D0 K1 with ⟨hm,r⟩ | ⟨y,l',e1,e2,e3,e4,e5⟩
   ·have S2:=S'
    have q: ∀x':ze,xJ x'=[]→zN {s with M:=(zL s.M x.D).1} x'=[]→WX p {s with M:=(zL s.M x.D).1} gh w x'→zfP p nb k R gh s w x {s with M:=(zL s.M x.D).1} x' :=
     fun x' a b c=> .quiet (by rw [eo];exact X) S' hm rfl rfl (by rw [a,eo]) (by rw [b,hh]) c
    rcases r with ⟨r1,r2⟩ | r
    ·rw [r1,if_neg (by decide),if_neg (by decide)]
     refine q _ (vP (by show x.PC≠3;omega) (by show x.PC≠4;omega) (by show x.PC≠6;omega)) ?_ ⟨fun _=>hc0,fun _=>hbt,fun e=>absurd e p0,fun _=> ?_,fun e=>by have e:x.PC=2:=e;omega,fun e=>by have e:x.PC=4:=e;omega,fun e=>by have e:x.PC=6:=e;omega⟩
     ·unfold zN
      rw [ZN (x:={x with D:=(zL s.M x.D).2}) (.inl p1)]
      show x.Batch++[]=[]
      rw [hbt];rfl
     ·show TK p (zL s.M x.D).1 _ _ _ _
      rw [hm];exact r2
    ·rw [if_neg (by omega),if_pos r,eL]
     obtain ⟨a,b,c⟩:=WX.look (p:=p) (s:={s with M:=(zL s.M x.D).1}) (gh:=gh) (w:=w) (x:={x with D:=(zL s.M x.D).2}) hc0 hbt
     refine q _ c ?_ a
     unfold zN
     rw [b,show (vn p w {x with D:=(zL s.M x.D).2}).Batch=x.Batch by unfold vn;split<;>rfl,hbt];rfl
   ·have hc:=hp.cap
    have hm': ∀a,(a<zF p x.Victim∨zF p x.Victim+p.Cap+2≤a)→ld (zL s.M x.D).1 a=ld s.M a:=fun a ha=>e5 a (by omega)
    have X':=X.dq hp S' hl hv hm' e4 (by rw [e1] at hdk;simp at hdk;omega)
    obtain ⟨h1,h2⟩:=zoG hp hv hm'
    obtain ⟨u,v,f1,f2⟩:=zku (p:=p) (s:=s) (s':={s with M:=(zL s.M x.D).1}) (g:=gh) rfl hv (t:=gh.t x.Victim+1) (c:=gh.c x.Victim) (l:=l')
    rw [e2,if_pos rfl]
    refine ⟨XM gh x.Victim (gh.t x.Victim+1) l' (gh.c x.Victim),by rw [vP (by show (5:Int)≠3;decide) (by show (5:Int)≠4;decide) (by show (5:Int)≠6;decide)];exact X',WX.plain (.inl rfl) ?_,⟨Mv.low hp h1,fun _ _ _=>rfl,fun v' a b=> .inl ?_,fun _ h=> .inl h⟩,[],[],?_,.inl ⟨rfl,rfl,rfl⟩⟩
    ·by_cases e:w=x.Victim
     ·rw [e,wq.2.2,←e];exact hc0
     ·rw [(Z9 e).2.2];exact hc0
    ·by_cases e:v'=x.Victim
     ·subst e
      exact .stolen y wq.2.1 (by rw [wq.1];exact e1) wq.2.2 (fun a h1 _=>e5 a (by omega))
     ·exact .same (Z9 e).2.1 (Z9 e).1 (Z9 e).2.2 (h2 v' a b e)
    ·rw [f1,f2,hh,List.append_nil,List.append_nil,List.nil_append,e1]
     unfold zN
     rw [Xt (.inl rfl)]
     show List.Perm (u++l'++v++(x.Batch++[(zL s.M x.D).2.X])) _
     rw [hbt,List.nil_append,e3]
     simp only [List.append_assoc]
     refine List.Perm.append_left _ ?_
     show List.Perm (l'++(v++[y])) (y::(l'++v))
     rw [←List.append_assoc]
     exact List.perm_append_comm
 rw [if_neg p01]
 have hc0:=K.c0 (by omega)
 by_cases p2:x.PC=2
 ·rw [if_pos p2]
  intro S'
  have S':SOk p nb {s with M:=(zj s.M x.C).1}:=S'
  have C:=W.c2 p2
  obtain ⟨c1,c2,c3⟩:=K.p2 p2
  have hbt:=K.bt (by omega)
  have eo:xJ x=[]:=vP (by omega) (by omega) (by omega)
  have hh:zN s x=[]:=by unfold zN;rw [hbt,ZN (.inr (.inl p2))];rfl
  dsimp only
  rcases SX.popF hp X hk C.k C.h C.n c1 c2 c3 C.v S' with ⟨a,b,c,d⟩ | ⟨y,l,a,b,c,d,e⟩
  ·rw [if_neg b]
   have hout:=Wa s.M c1 c2 (.inr C.k)
   by_cases o2:(zj s.M x.C).2.Out=2
   ·rw [if_pos o2,eB]
    refine .quiet X S' a rfl rfl ?_ ?_ (WX.begin hc0 hbt)
    ·rw [eo];exact vP (by show (0:Int)≠3;decide) (by show (0:Int)≠4;decide) (by show (0:Int)≠6;decide)
    ·unfold zN
     rw [ziN,show (X3 p w {x with C:=(zj s.M x.C).2}).Batch=x.Batch from rfl]
     rw [hbt,ZN (.inr (.inl p2))]
   ·rw [if_neg o2]
    have hpc':(zj s.M x.C).2.Out=0∧0≤(zj s.M x.C).2.PC∧(zj s.M x.C).2.PC≤2:=by omega
    refine .quiet X S' a rfl rfl ?_ ?_ ⟨fun _=>hc0,fun _=>hbt,fun e=>by have e:x.PC=0:=e;omega,fun e=>by have e:x.PC=1:=e;omega,fun _=>⟨hpc'.1,hpc'.2,?_⟩,fun e=>by have e:x.PC=4:=e;omega,fun e=>by have e:x.PC=6:=e;omega⟩
    ·rw [eo];exact vP (by show x.PC≠3;omega) (by show x.PC≠4;omega) (by show x.PC≠6;omega)
    ·unfold zN
     rw [ZN (x:={x with C:=(zj s.M x.C).2}) (.inr (.inl p2)),ZN (.inr (.inl p2))]
    ·rw [show ({s with M:=(zj s.M x.C).1}:za).M=s.M from a];exact c
  ·rw [if_pos b]
   have e1:xJ {x with C:=(zj s.M x.C).2,Bin:=(zj s.M x.C).2.X,PC:=3}=[y]:=by rw [←c];exact zeY (x:={x with C:=(zj s.M x.C).2,Bin:=(zj s.M x.C).2.X,PC:=3}) (.inl rfl)
   refine ⟨{gh with F:=l},by rw [e1];rw [eo] at d;exact d,⟨fun _=>hc0,fun _=>hbt,fun e=>(by cases e),fun e=>(by cases e),fun e=>(by cases e),fun e=>(by cases e),fun e=>(by cases e)⟩,e _ _,[],[],?_,.inl ⟨rfl,rfl,rfl⟩⟩
   rw [hh,List.append_nil,List.append_nil,List.nil_append]
   unfold zN
   rw [zqk (x:={x with C:=(zj s.M x.C).2,Bin:=(zj s.M x.C).2.X,PC:=3}) rfl]
   show List.Perm (yy p s {gh with F:=l}++(x.Batch++xe s (zj s.M x.C).2.X)) _
   rw [hbt,List.nil_append,c]
   have:yy p s gh=xe s y++yy p s {gh with F:=l}:=by unfold yy;rw [a];simp [List.append_assoc]
   rw [this]
   exact List.perm_append_comm
 rw [if_neg p2]
 by_cases p3:x.PC=3
 ·rw [if_pos p3]
  intro S'
  have hb:=W.b3 p3
  have hbt:=K.bt (by omega)
  have eo:xJ x=[x.Bin]:=zeY (.inl p3)
  rw [eC]
  have e1:xJ {x with Batch:=ZS s x.Bin,PC:=4,C:=XD p (zD p) x.Bin}=[x.Bin]:=zeY (x:={x with Batch:=ZS s x.Bin,PC:=4,C:=XD p (zD p) x.Bin}) (.inr rfl)
  have hget: ∀b,1≤b→b∉xJ x→(s.Bins.set x.Bin.toNat [])[b.toNat]? =s.Bins[b.toNat]? :=fun b b1 b2=>by
   rw [List.getElem?_set_ne]
   intro e
   rw [eo] at b2
   exact b2 (by rw [show b=x.Bin by omega];simp)
  refine ⟨gh,by rw [e1,←eo];exact X.quiet S' rfl,⟨fun _=>hc0,fun e=>absurd e (by show ¬(4:Int)≤3;decide),fun e=>(by cases e),fun e=>(by cases e),fun e=>(by cases e),fun _=>⟨rfl,⟨by show (0:Int)≤0;decide,by show (0:Int)≤2;decide⟩,rfl,CK.start⟩,fun e=>(by cases e)⟩,FX.quiet rfl hget,[],[],?_,.inl ⟨rfl,rfl,rfl⟩⟩
  have hbag:yy p {s with Bins:=s.Bins.set x.Bin.toNat []} gh=yy p s gh:=by
   unfold yy
   congr 1
   refine vb (fun b hb=> ?_)
   have hm:=X.L.cF.mem b hb
   have hno:=(X.L.notF (x:=x.Bin) (by rw [eo];simp)).1
   unfold xe
   rw [show ({s with Bins:=s.Bins.set x.Bin.toNat []}:za).Bins=s.Bins.set x.Bin.toNat [] from rfl,hget b hm.1 (by rw [eo];intro e;rw [List.mem_singleton.1 e] at hb;exact hno hb)]
  rw [hbag,List.append_nil,List.nil_append]
  unfold zN
  rw [zqk p3,ZN (x:={x with Batch:=ZS s x.Bin,PC:=4,C:=XD p (zD p) x.Bin}) (.inr (.inr (.inl rfl)))]
  show List.Perm (yy p s gh++(ZS s x.Bin++[])) _
  rw [hbt,List.append_nil,List.nil_append,ziW]
 rw [if_neg p3]
 by_cases p4:x.PC=4
 ·rw [if_pos p4]
  intro S'
  have S':SOk p nb {s with M:=(zj s.M x.C).1}:=S'
  have C:=W.c4 p4
  obtain ⟨c1,c2,c3,c4⟩:=K.p4 p4
  have eo:xJ x=[x.Bin]:=zeY (.inr p4)
  have hh:zN s x=x.Batch:=by unfold zN;rw [ZN (.inr (.inr (.inl p4))),List.append_nil]
  rw [eo] at X
  dsimp only
  rcases SX.pushE hp (o1:=[]) (o2:=R) (b:=x.Bin) X hk C.k C.h C.n c3 c1 c2 c4 C.v S' with ⟨a,b,c,d⟩ | ⟨a,b,d⟩
  ·rw [a,if_neg (by decide)]
   have hout:=Wa s.M c1 c2 (.inl C.k)
   have hsame:=zhD s.M x.C
   have hpc':0≤(zj s.M x.C).2.PC∧(zj s.M x.C).2.PC≤2:=by omega
   have e1:xJ {x with C:=(zj s.M x.C).2}=[x.Bin]:=zeY (x:={x with C:=(zj s.M x.C).2}) (.inr p4)
   refine ⟨gh,by rw [e1];exact b,⟨fun _=>hc0,fun e=>by have e:x.PC≤3:=e;omega,fun e=>by have e:x.PC=0:=e;omega,fun e=>by have e:x.PC=1:=e;omega,fun e=>by have e:x.PC=2:=e;omega,fun _=>⟨a,hpc',(hsame.2.2.2 C.k).trans c3,c⟩,fun e=>by have e:x.PC=6:=e;omega⟩,by rw [eo];exact d _ _ (by simp),[],[],?_,.inl ⟨rfl,rfl,rfl⟩⟩
   rw [ZB rfl,hh,List.append_nil]
   unfold zN
   rw [ZN (x:={x with C:=(zj s.M x.C).2}) (.inr (.inr (.inl p4))),List.append_nil]
   exact List.Perm.refl _
  ·rw [a,if_pos rfl]
   refine ⟨{gh with E:=x.Bin::gh.E},by rw [vP (by show (7:Int)≠3;decide) (by show (7:Int)≠4;decide) (by show (7:Int)≠6;decide)];exact b,WX.plain (.inr (.inl rfl)) hc0,by rw [eo];exact d _ _,[],[],?_,.inl ⟨rfl,rfl,rfl⟩⟩
   rw [hh,List.append_nil]
   unfold zN
   rw [ZN (.inr (.inr (.inr (.inl rfl)))),List.append_nil]
   exact List.Perm.refl _
 rw [if_neg p4]
 by_cases p5:x.PC=5
 ·rw [if_pos p5]
  intro S'
  have eo:xJ x=[]:=vP (by omega) (by omega) (by omega)
  have hv:=hH x.Obj x.Slot
  dsimp only
  split
  ·rcases zjA s (wc (x.Slot+1)) with e | e<;>rw [e]
   ·refine .quiet X S' rfl rfl rfl (by rw [eo];exact vP (by show (5:Int)≠3;decide) (by show (5:Int)≠4;decide) (by show (5:Int)≠6;decide)) ?_ (WX.plain (.inl rfl) hc0)
    unfold zN
    rw [Xt (.inl p5),Xt (.inl rfl)]
   ·refine .quiet X S' rfl rfl rfl (by rw [eo];exact vP (by show (8:Int)≠3;decide) (by show (8:Int)≠4;decide) (by show (8:Int)≠6;decide)) ?_ (WX.plain (.inr (.inr (.inl rfl))) hc0)
    unfold zN
    rw [Xt (.inl p5),Xt (.inr rfl)]
  ·rename_i hne
   have e0:(Yw 1 (zM s.H x.Obj x.Slot) w).PC=0:=rfl
   refine .quiet X S' rfl rfl rfl ?_ ?_ ⟨fun _=>hc0,fun e=>absurd e (by show ¬(6:Int)≤3;decide),fun e=>(by cases e),fun e=>(by cases e),fun e=>(by cases e),fun e=>(by cases e),fun _=>⟨GX.plain (.inl rfl) ⟨by show (0:Int)≤0;decide,by show (0:Int)≤7;decide⟩ ⟨by show (1:Int)≤1;decide,by show (1:Int)≤3;decide⟩ ⟨by show 1≤zM s.H x.Obj x.Slot;omega,hv.2⟩ (fun _ _=>hc0) (.inr ⟨by show (0:Int)≠3;decide,by show (0:Int)≠5;decide,by show (0:Int)≠7;decide⟩),rfl,rfl,rfl⟩⟩
   ·rw [eo,znL (x:={x with Slot:=wc (x.Slot+1),PC:=6,G:=Yw 1 (zM s.H x.Obj x.Slot) w}) rfl]
    exact wN (.inr ⟨by show (0:Int)≠6;decide,by show (0:Int)≠7;decide⟩)
   ·unfold zN
    rw [Xt (.inl p5),znq (x:={x with Slot:=wc (x.Slot+1),PC:=6,G:=Yw 1 (zM s.H x.Obj x.Slot) w}) rfl]
    rw [u5 (g:=Yw 1 (zM s.H x.Obj x.Slot) w) (.inr (.inl (by show (0:Int)<3;decide)))]
 rw [if_neg p5]
 by_cases p6:x.PC=6
 ·rw [if_pos p6]
  intro S'
  obtain ⟨G,gm,gw,g0⟩:=K.p6 p6
  obtain ⟨M,h5o,_,hn4⟩:=W.g6 p6
  have eo:xJ x=xK x.G:=znL p6
  have hh:zN s x=x.Batch++x.Obj::yM x.G:=by unfold zN;rw [znq p6]
  rw [eo] at X
  obtain ⟨gh',X',G',Fx,hc',hFb,N,hN,hT⟩:=zsZ hp hk X M h5o G
  have so:=Vf s x.G
  have Fx':FX p nb (xJ x) (fun v=>v=w) s (zp s x.G).1 gh gh':=by
   rw [eo]
   exact Fx.mono (fun v e=>e.2.trans gw)
  have hcw:gh'.c w=0:=by have:=hc' gm g0;rwa [gw] at this
  dsimp only
  have hT':(N=[]∧([]:List Int)=[]∧(zp s x.G).1.T=s.T)∨(N=[x.G.Obj]∧([]:List Int)=[]∧x.PC=6∧¬(s.T.Marks|||bit x.G.Obj=s.T.Marks)∧(zp s x.G).1.T={s.T with Marks:=s.T.Marks|||bit x.G.Obj})∨(N=[]∧([]:List Int)=[x.Obj]∧x.PC=8∧(zp s x.G).1.T=wR s.T x.Obj):=by
   rcases hT with ⟨a,b⟩ | ⟨a,b,c⟩
   ·exact .inl ⟨a,rfl,b⟩
   ·exact .inr (.inl ⟨a,rfl,p6,b,c⟩)
  have perm: ∀H':List Int,H'=x.Batch++x.Obj::yM (zp s x.G).2→List.Perm (yy p (zp s x.G).1 gh'++H'++[]) (N++(yy p s gh++zN s x)):=by
   intro H' e
   rw [e,hh,List.append_nil]
   have a1:List.Perm (yy p (zp s x.G).1 gh'++(x.Batch++x.Obj::yM (zp s x.G).2)) ((x.Batch++[x.Obj])++(yy p (zp s x.G).1 gh'++yM (zp s x.G).2)):=by
    rw [show x.Batch++x.Obj::yM (zp s x.G).2=(x.Batch++[x.Obj])++yM (zp s x.G).2 by simp]
    exact List.perm_append_comm_assoc _ _ _
   have a2:List.Perm (N++(yy p s gh++(x.Batch++x.Obj::yM x.G))) ((x.Batch++[x.Obj])++(N++(yy p s gh++yM x.G))):=by
    rw [show x.Batch++x.Obj::yM x.G=(x.Batch++[x.Obj])++yM x.G by simp]
    exact (List.Perm.append_left N (List.perm_append_comm_assoc _ _ _)).trans (List.perm_append_comm_assoc _ _ _)
   exact a1.trans ((List.Perm.append_left _ hN).trans a2.symm)
  split
  ·rename_i o1
   have n1:xK (zp s x.G).2=[]:=wN (.inl (by omega))
   have n2:yM (zp s x.G).2=[]:=u5 (.inl (by omega))
   rw [n1] at X'
   rcases zjA s x.Slot with e | e<;>rw [e]
   ·refine ⟨gh',by rw [vP (by show (5:Int)≠3;decide) (by show (5:Int)≠4;decide) (by show (5:Int)≠6;decide)];exact X',WX.plain (.inl rfl) hcw,Fx',N,[],perm _ ?_,hT'⟩
    unfold zN;rw [Xt (.inl rfl),n2]
   ·refine ⟨gh',by rw [vP (by show (8:Int)≠3;decide) (by show (8:Int)≠4;decide) (by show (8:Int)≠6;decide)];exact X',WX.plain (.inr (.inr (.inl rfl))) hcw,Fx',N,[],perm _ ?_,hT'⟩
    unfold zN;rw [Xt (.inr rfl),n2]
  ·rename_i o1
   have o0:(zp s x.G).2.Out=0:=by have:=G'.o;omega
   refine ⟨gh',by rw [znL (x:={x with G:=(zp s x.G).2}) p6];exact X',⟨fun _=>hcw,fun e=>by have e:x.PC≤3:=e;omega,fun e=>by have e:x.PC=0:=e;omega,fun e=>by have e:x.PC=1:=e;omega,fun e=>by have e:x.PC=2:=e;omega,fun e=>by have e:x.PC=4:=e;omega,fun _=>⟨G',so.2.2.trans gm,so.2.1.trans gw,o0⟩⟩,Fx',N,[],perm _ ?_,hT'⟩
   unfold zN;rw [znq (x:={x with G:=(zp s x.G).2}) p6]
 rw [if_neg p6]
 have eo:xJ x=[]:=vP (by omega) (by omega) (by omega)
 by_cases p7:x.PC=7
 ·rw [if_pos p7]
  intro S'
  dsimp only
  split
  ·rename_i hb
   rw [eB]
   refine .quiet X S' rfl rfl rfl (by rw [eo];exact vP (by show (0:Int)≠3;decide) (by show (0:Int)≠4;decide) (by show (0:Int)≠6;decide)) ?_ (WX.begin hc0 hb)
   unfold zN
   rw [ziN,ZN (.inr (.inr (.inr (.inl p7))))]
   exact List.Perm.refl _
  ·rename_i o l hb
   refine .quiet X S' rfl rfl rfl (by rw [eo];exact vP (by show (5:Int)≠3;decide) (by show (5:Int)≠4;decide) (by show (5:Int)≠6;decide)) ?_ (WX.plain (.inl rfl) hc0)
   unfold zN
   rw [Xt (.inl rfl),ZN (.inr (.inr (.inr (.inl p7)))),hb,List.append_nil]
   exact List.perm_append_comm
 rw [if_neg p7]
 by_cases p8:x.PC=8
 ·rw [if_pos p8]
  intro S'
  refine ⟨gh,by rw [vP (by show (9:Int)≠3;decide) (by show (9:Int)≠4;decide) (by show (9:Int)≠6;decide)];rw [eo] at X;exact X.quiet S' rfl,WX.plain (.inr (.inr (.inr rfl))) hc0,FX.quiet rfl (fun _ _ _=>rfl),[],[x.Obj],?_,.inr (.inr ⟨rfl,rfl,p8,rfl⟩)⟩
  rw [ZB rfl,List.nil_append]
  unfold zN
  rw [Xt (.inr p8),ZN (.inr (.inr (.inr (.inr rfl)))),List.append_nil,List.append_assoc]
  exact List.Perm.refl _
 rw [if_neg p8]
 have p9:x.PC=9:=by omega
 rw [if_pos p9]
 intro S'
 refine .quiet X S' rfl rfl rfl (by rw [eo];exact vP (by show (7:Int)≠3;decide) (by show (7:Int)≠4;decide) (by show (7:Int)≠6;decide)) ?_ (WX.plain (.inr (.inl rfl)) hc0)
 unfold zN
 rw [ZN (.inr (.inr (.inr (.inr p9)))),ZN (.inr (.inr (.inr (.inl rfl))))]
theorem zrt (s:za) (w:Int) (x:ze) (h:(zh s w x).2.PC=6):(x.PC=6∧(zh s w x).2.G.Obj=x.G.Obj)∨(x.PC=5∧(zh s w x).2.G.Obj=zM s.H x.Obj x.Slot):=by
 revert h
 have hon: ∀i,onW s i≠6:=fun i e=>by rcases zjA s i with h | h<;>omega
 have hlk: ∀y:ze,(vn s.P w y).PC≠6:=fun y e=>by unfold vn at e;split at e<;>cases e
 unfold zh
 split
 ·rename_i h0
  dsimp only
  split
  ·exact fun e=>by cases e
  split
  ·exact fun e=>absurd e (hlk _)
  ·exact fun e=>by have e:x.PC=6:=e;omega
 split
 ·dsimp only
  split
  ·exact fun e=>by cases e
  split
  ·exact fun e=>by cases e
  ·exact fun e=>by have e:x.PC=6:=e;omega
 split
 ·exact fun e=>by cases e
 split
 ·dsimp only
  split
  ·exact fun e=>by cases e
  ·exact fun e=>by have e:x.PC=6:=e;omega
 split
 ·rename_i h5
  dsimp only
  split
  ·exact fun e=>absurd e (hon _)
  ·exact fun _=> .inr ⟨h5,rfl⟩
 split
 ·rename_i h6
  dsimp only
  split
  ·exact fun e=>absurd e (hon _)
  ·exact fun _=> .inl ⟨h6,(Vf s x.G).1⟩
 split
 ·dsimp only
  split
  ·exact fun e=>by cases e
  ·exact fun e=>by cases e
 split
 ·exact fun e=>by cases e
 split
 ·exact fun e=>by cases e
 ·exact fun e=> .inl ⟨e,rfl⟩
end
end Go.Pe.G
