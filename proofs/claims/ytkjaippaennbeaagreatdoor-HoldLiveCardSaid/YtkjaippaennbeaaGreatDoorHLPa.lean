/- Own work of this seat: PA, PB, PMk, PMade19, PRight, PNew, PInv, PNewOk, PDq, PWork, PMut, PSmall, PEng, PLowEq, PMutEq, PDetEq, PWorkEq, PFrame, PGo, PEngEq, PPicks19, PFold, PSort, PDq2, PChain, PStrong, PGstep. -/
import Derived.Test.YtkjaippaennbeaaGreatDoorHLGb
import Derived.Test.YtkjaippaennbeaaGreatDoorHLGa
set_option linter.unusedVariables false
set_option linter.unusedSimpArgs false
set_option linter.unnecessarySimpa false
set_option linter.unusedSectionVars false
set_option linter.deprecated false
set_option maxRecDepth 20000
open BitVec renaming toNat_ofInt → zHE, getLsbD_and → zHV, toNat_and → zHW, eq_of_toNat_eq → zH2, eq_of_getLsbD_eq → zIc, getLsbD_zero → zId, getLsbD_not → zIo, toInt_eq_toNat_cond → zIt
open Bool renaming and_eq_true → zGM, not_true → zG1, true_and → zHJ, or_eq_true → zHR
open Int renaming toNat_natCast → zHs, le_refl → zHv
open List renaming getElem?_eq_getElem → zGN, append_nil → zGO, getD_eq_getElem?_getD → zGP, append_assoc → zGR, mem_of_getElem? → zGT, mem_cons_of_mem → zGU, nil_append → zGV, getElem?_eq_some_iff → zGX, length_append → zGZ, mem_map → zG2, mem_cons_self → zG4, length_cons → zG6, mem_cons → zG7, mem_append → zG8, mem_append_left → zG9, getElem?_append_left → zHe, getElem?_map → zHg, length_set → zHh, getElem_mem → zHi, mem_range → zHj, getElem?_append_right → zHm, mem_singleton → zHo, mem_append_right → zHp, getElem?_set_ne → zHt, perm_append_comm → zHw, getElem?_set → zHx, eq_nil_of_length_eq_zero → zHy, drop_eq_getElem_cons → zHz, flatMap_cons → zHA, mem_or_eq_of_mem_set → zHB, length_replicate → zHC, foldl_cons → zHH, length_map → zHK, getElem?_cons_zero → zHO, getElem?_eq_none → zHQ, length_take → zHT, nodup_append → zHX, range_succ → zH0, length_drop → zH1, pairwise_cons → zH3, take_add_one → zH4, length_filter_le → zH5, flatMap_append → zH7, getElem?_replicate → zIb, mem_of_mem_take → zIg, drop_eq_nil_of_le → zIi, take_length → zIm, getElem?_set_self → zIq, length_singleton → zIx, getElem_append_left → zIy
open List.Perm renaming append_left → zGY, refl → zHb
open Nat renaming le_refl → zGQ, lt_or_ge → zHk, add_zero → zHr, mul_one → zHF, le_trans → zHP, add_assoc → zHY, mul_le_mul → zH8, lt_of_le_of_lt → zIp, and_two_pow_sub_one_eq_mod → zIA
open Option renaming bind_some → zGL
namespace Go.Pe.G
open Go.Pe
noncomputable section
theorem xV {A B D:Type}{f:A->Option (yC A B D)}(Inv:A->Prop) (ms:A->Nat) (Q:yC Unit B D->Prop)
  (h:∀a,Inv a->∃o,f a=some o/\match o with
   | .again a'=>Inv a'/\ms a'<ms a
   | .brk b=>Q (.brk b)
   | .ret c=>Q (.ret c)):∀a,Inv a->ms a<vQ->∃o,zP f a=some o/\Q o:=by
 have key:∀(n:Nat) a,Inv a->ms a<n->∃o,xw f n a=some o/\Q o:=by
  intro n
  induction n with
  | zero=>intro a _ h;omega
  | succ n ih =>
   intro a ha hm
   obtain ⟨o,ho,hq⟩:=h a ha
   simp only [xw,ho,zGL]
   cases o with
   | again a'=>exact ih a' hq.1 (by have:=hq.2;omega)
   | brk b=>exact ⟨_,rfl,hq⟩
   | ret c=>exact ⟨_,rfl,hq⟩
 intro a ha hm
 rw [Wf]
 exact key vQ a ha hm
theorem ve {n:Nat}(h:n<18446744073709551616):n<vQ:=h
theorem zV {a:Int}(h: -9223372036854775808<=a) (h2:a<9223372036854775808):w64 a=a:=by
 rw [zqE];omega
def wc (n:Int):Int:=(n+9223372036854775808)%18446744073709551616-9223372036854775808
theorem xi:w64=wc:=funext zqE
theorem xr {a:Int}(h: -9223372036854775808<=a) (h2:a<9223372036854775808):wc a=a:=by unfold wc;omega
theorem zj {α:Type}(p:Prop) [Decidable p] (a b:α):(bif decide p then a else b)=if p then a else b:=by
 by_cases h:p<;>simp [h]
theorem yx {α:Type}(p:Prop) [Decidable p] (a b:α):(bif !(decide p) then a else b)=if p then b else a:=by
 by_cases h:p<;>simp [h]
theorem yq {α:Type}{l:List α}(h:l.length<4294967296):yf l=some l:=by
 rw [zsB];simp [h]
theorem w8 {α:Type}{l:List α}{i:Int}(h:0<=i):idx l i=l[i.toNat]? :=by
 unfold idx;simp [h]
theorem wS {α:Type}{l:List α}{i:Int}(h:0<=i) (h2:i<l.length):xx l i=some i.toNat:=by
 unfold xx;simp [h,h2]
def bit (o:Int):BitVec 64:=if 1<=o/\o<=64 then 1#64 <<< (o-1).toNat else 0#64
theorem zAb (a:Int):zlE a=some (bit a,()):=by
 rw [zxW]
 simp only [zj]
 unfold bit
 by_cases h1:a<1
 ·rw [if_pos h1,if_neg (by omega)]
 ·rw [if_neg h1]
  by_cases h2:64<a
  ·rw [if_pos h2,if_neg (by omega)]
  ·rw [if_neg h2,zV (a:=a-1) (by omega) (by omega),if_neg (show ¬a-1<0 by omega),if_pos (show 1<=a/\a<=64 by omega),Nat.min_eq_left (by omega)]
theorem zqD (s:BitVec 64) (o:Int):zdb s o=some (!(decide (s&&&bit o=0#64)),()):=by
 rw [zxt,zAb];rfl
theorem zfq (s:BitVec 64) (o:Int):Z1 s o=some (s|||bit o,()):=by
 rw [zyM,zAb];rfl
def vw (t:zq) (o:Int):zq×Bool :=
 if t.Marks|||bit o=t.Marks then (t,false) else if t.Black&&&bit o=0#64 then ({t with Marks:=t.Marks|||bit o},true) else (t,false)
theorem ztY (t:zq) (o:Int):zdD t o=some ((vw t o).1,(vw t o).2,()):=by
 rw [zsR,zfq,zGL,zj]
 unfold vw
 by_cases h1:t.Marks|||bit o=t.Marks
 ·rw [if_pos h1,if_pos h1]
 ·rw [if_neg h1,if_neg h1,zqD,zGL,yx]
  by_cases h2:t.Black&&&bit o=0#64
  ·rw [if_pos h2,if_pos h2]
  ·rw [if_neg h2,if_neg h2]
theorem zwq {m:List (BitVec 64)}(h:m.length<4294967296):xI m=some (m,()):=by
 rw [zcH,zGV,yq h,zGL]
 cases m with
 | nil=>simp [zc5]
 | cons a l=>simp
theorem zif {m:List (List Int)}(h:m.length<4294967296):wy m=some (m,()):=by
 rw [ze9,zGV,yq h,zGL]
 cases m with
 | nil=>simp [zc5]
 | cons a l=>simp
def ld (m:List (BitVec 64)) (a:Int):BitVec 64:=if 0<=a then m.getD a.toNat 0#64 else 0#64
def st (m:List (BitVec 64)) (a:Int) (v:BitVec 64):List (BitVec 64):=if 0<=a then m.set a.toNat v else m
def sw (m:List (BitVec 64)) (at_:Int) (a b:BitVec 64):List (BitVec 64)×Bool :=
 if 0<=at_/\at_<m.length/\ld m at_=a then (st m at_ b,true) else (m,false)
theorem zyN {m:List (BitVec 64)}{a:Int}(h:0<=a) (h2:a<m.length):m[a.toNat]? =some (ld m a):=by
 unfold ld
 rw [if_pos h,zGP,zGN (by omega)];rfl
theorem zzX {m:List (BitVec 64)}{a:Int}:st m a (ld m a)=m:=by
 unfold st ld
 by_cases h:0<=a
 ·rw [if_pos h,if_pos h]
  by_cases h2:a.toNat<m.length
  ·rw [zGP,zGN h2];simp
  ·rw [List.set_eq_of_length_le (by omega)]
 ·rw [if_neg h]
theorem zCn {m:List (BitVec 64)}{a:Int}(h:a<0\/m.length<=a):ld m a=0#64:=by
 unfold ld
 rcases h with h | h
 ·rw [if_neg (by omega)]
 ·split
  ·rw [zGP,zHQ (by omega)];rfl
  ·rfl
theorem zCx {m:List (BitVec 64)}{a:Int}{v:BitVec 64}(h:a<0\/m.length<=a):st m a v=m:=by
 unfold st
 rcases h with h | h
 ·rw [if_neg (by omega)]
 ·split
  ·rw [List.set_eq_of_length_le (by omega)]
  ·rfl
theorem zvc (m:List (BitVec 64)) (a:Int) (x y:BitVec 64):∃b,Y0 m ⟨1,a,x,y⟩=some (m,ld m a,b,()):=by
 rw [zmT]
 simp only [zj,if_true]
 by_cases h1:a<0
 ·rw [if_pos h1,zCn (.inl h1)];exact ⟨_,rfl⟩
 ·rw [if_neg h1]
  by_cases h2:(m.length:Int)<=a
  ·rw [if_pos h2,zCn (.inr h2)];exact ⟨_,rfl⟩
  ·rw [if_neg h2,w8 (by omega),zyN (by omega) (by omega),zGL,zwV,zGL]
   simp
theorem zyp {m:List (BitVec 64)}(hm:m.length<4294967296) (a:Int) (x y:BitVec 64):∃v b,Y0 m ⟨2,a,x,y⟩=some (st m a x,v,b,()):=by
 rw [zmT]
 simp only [zj,if_true,if_neg (show ¬(2:Int)=1 by omega)]
 by_cases h1:a<0
 ·rw [if_pos h1,zCx (.inl h1)];exact ⟨_,_,rfl⟩
 ·rw [if_neg h1]
  by_cases h2:(m.length:Int)<=a
  ·rw [if_pos h2,zCx (.inr h2)];exact ⟨_,_,rfl⟩
  ·rw [if_neg h2,w8 (by omega),zyN (by omega) (by omega),zGL,zwx,zGL,cond_true,yx]
   by_cases h3:ld m a=x
   ·rw [if_pos h3]
    subst h3
    rw [zzX];exact ⟨_,_,rfl⟩
   ·rw [if_neg h3,zwq hm,zGL,wS (l:=m) (by omega) (by omega),zGL]
    unfold st
    rw [if_pos (by omega)]
    exact ⟨_,_,rfl⟩
theorem zvE {m:List (BitVec 64)}(hm:m.length<4294967296) (a:Int) (x y:BitVec 64):∃v,Y0 m ⟨3,a,x,y⟩=some ((sw m a x y).1,v,(sw m a x y).2,()):=by
 rw [zmT]
 simp only [zj,if_true,if_neg (show ¬(3:Int)=1 by omega),if_neg (show ¬(3:Int)=2 by omega)]
 by_cases h1:a<0
 ·rw [if_pos h1]
  have:sw m a x y=(m,false):=by unfold sw;rw [if_neg (by omega)]
  rw [this];exact ⟨_,rfl⟩
 ·rw [if_neg h1]
  by_cases h2:(m.length:Int)<=a
  ·rw [if_pos h2]
   have:sw m a x y=(m,false):=by unfold sw;rw [if_neg (by omega)]
   rw [this];exact ⟨_,rfl⟩
  ·rw [if_neg h2,w8 (by omega),zyN (by omega) (by omega),zGL,zwA,zGL]
   simp only [zj]
   by_cases h3:ld m a=x
   ·have:sw m a x y=(st m a y,true):=by unfold sw;rw [if_pos ⟨by omega,by omega,h3⟩]
    rw [if_pos h3,this,yx]
    by_cases h4:ld m a=y
    ·rw [if_pos h4]
     have:st m a y=m:=by rw [<-h4,zzX]
     rw [this]
     simp [h3]
    ·rw [if_neg h4,zwq hm,zGL,wS (l:=m) (by omega) (by omega),zGL]
     unfold st
     rw [if_pos (by omega)]
     simp [h3]
   ·have:sw m a x y=(m,false):=by unfold sw;rw [if_neg (by rintro ⟨_,_,h⟩;exact h3 h)]
    rw [if_neg h3,this]
    simp [h3]
theorem ziw (m:List (BitVec 64)) (a:Int):V3 m a=some (ld m a,()):=by
 obtain ⟨b,h⟩:=zvc m a 0#64 0#64
 rw [ztm,h];rfl
theorem zcj {m:List (BitVec 64)}(hm:m.length<4294967296) (a:Int) (x:BitVec 64):Y3 m a x=some (st m a x,()):=by
 obtain ⟨v,b,h⟩:=zyp hm a x 0#64
 rw [zst,h];rfl
theorem Yp (m:List (BitVec 64)) (a:Int):vn m a=some (ld m a,()):=by
 obtain ⟨b,h⟩:=zvc m a 0#64 0#64
 rw [zua,h];rfl
theorem zcc {m:List (BitVec 64)}(hm:m.length<4294967296) (a:Int) (x:BitVec 64):Y7 m a x=some (st m a x,()):=by
 obtain ⟨v,b,h⟩:=zyp hm a x 0#64
 rw [zsx,h];rfl
def yg (h:BitVec 64):Int:=(h&&&4294967295#64).toInt
def xd (v:BitVec 64) (n:Int):BitVec 64:=(v <<< 32)|||(BitVec.ofInt 64 n&&&4294967295#64)
theorem zdW (h:BitVec 64):Yv h=some (yg h,()):=zsV h
theorem zil (v:BitVec 64) (n:Int):VJ v n=some (xd v n,()):=ztD v n
def zn (m:List (BitVec 64)) (c:zE):List (BitVec 64)×zE :=
 if c.Out≠0\/(c.Kind≠1/\c.Kind≠2)\/c.PC<0\/3<=c.PC then (m,c)
 else if c.PC=0 then
  (m,if c.Kind=2/\yg (ld m c.Head)=0 then {c with H:=ld m c.Head,Out:=2,PC:=1} else {c with H:=ld m c.Head,PC:=1})
 else if c.PC=1 then
  if c.Kind=2 then (m,{c with Y:=(ld m (wc (c.Next+yg c.H))).toInt,PC:=2})
  else (st m (wc (c.Next+c.X)) (BitVec.ofInt 64 (yg c.H)),{c with PC:=2})
 else
  let r:=sw m c.Head c.H (xd ((c.H >>> 32)+1#64) (if c.Kind=2 then c.Y else c.X))
  (r.1,if r.2 then (if c.Kind=2 then {c with X:=yg c.H,Out:=1,PC:=3} else {c with Out:=1,PC:=3}) else {c with PC:=0})
theorem zd8 {m:List (BitVec 64)}(hm:m.length<4294967296) (c:zE):Wb m c=some ((zn m c).1,(zn m c).2,()):=by
 have hsee:vD m c=some (m,(if c.Kind=2/\yg (ld m c.Head)=0 then {c with H:=ld m c.Head,Out:=2} else {c with H:=ld m c.Head}),()):=by
  rw [ziU,ziw,zGL,zdW,zGL,zj,zj]
  by_cases h1:c.Kind=2
  ·by_cases h2:yg (ld m c.Head)=0
   ·rw [if_pos h1,if_pos h2,if_pos ⟨h1,h2⟩]
   ·rw [if_pos h1,if_neg h2,if_neg (fun h=>h2 h.2)]
  ·rw [if_neg h1,if_neg (fun h=>h1 h.1)]
 have hlink:Xr m c=some (st m (wc (c.Next+c.X)) (BitVec.ofInt 64 (yg c.H)),()):=by
  rw [zkO,xi,zdW,zGL,zcj hm];rfl
 have hbeh:ZB m c=some (m,{c with Y:=(ld m (wc (c.Next+yg c.H))).toInt},()):=by
  rw [zfz,xi,zdW,zGL,ziw];rfl
 have hswap:va m c=some ((sw m c.Head c.H (xd ((c.H >>> 32)+1#64) (if c.Kind=2 then c.Y else c.X))).1,
   (if (sw m c.Head c.H (xd ((c.H >>> 32)+1#64) (if c.Kind=2 then c.Y else c.X))).2 then (if c.Kind=2 then {c with X:=yg c.H,Out:=1} else {c with Out:=1}) else {c with PC:= -1}),()):=by
  rw [zhF,zj]
  by_cases h1:c.Kind=2
  ·rw [if_pos h1,zil,zGL]
   obtain ⟨v,hv⟩:=zvE hm c.Head c.H (xd ((c.H >>> 32)+1#64) c.Y)
   simp only [if_pos h1]
   rw [hv,zGL]
   cases hs:(sw m c.Head c.H (xd ((c.H >>> 32)+1#64) c.Y)).2 with
   | true=>simp [hs,h1,zdW]
   | false=>simp [hs]
  ·rw [if_neg h1,zil,zGL]
   obtain ⟨v,hv⟩:=zvE hm c.Head c.H (xd ((c.H >>> 32)+1#64) c.X)
   simp only [if_neg h1]
   rw [hv,zGL]
   cases hs:(sw m c.Head c.H (xd ((c.H >>> 32)+1#64) c.X)).2 with
   | true=>simp [hs,h1]
   | false=>simp [hs]
 rw [zsL,hsee,hlink,hbeh,hswap]
 simp only [zj,yx,zGL]
 unfold zn
 by_cases h0:c.Out=0
 ·by_cases hp0:c.PC<0
  ·have:(c.Out≠0\/(c.Kind≠1/\c.Kind≠2)\/c.PC<0\/3<=c.PC):= .inr (.inr (.inl hp0))
   rw [if_pos this]
   simp [h0,hp0]
  ·by_cases hp3:3<=c.PC
   ·have:(c.Out≠0\/(c.Kind≠1/\c.Kind≠2)\/c.PC<0\/3<=c.PC):= .inr (.inr (.inr hp3))
    rw [if_pos this]
    simp [h0,hp3]
   ·by_cases hk:c.Kind=1\/c.Kind=2
    ·have: ¬(c.Out≠0\/(c.Kind≠1/\c.Kind≠2)\/c.PC<0\/3<=c.PC):=by
      rintro (h | h | h | h)
      ·exact h h0
      ·omega
      ·exact hp0 h
      ·exact hp3 h
     rw [if_neg this]
     have hpc:c.PC=0\/c.PC=1\/c.PC=2:=by omega
     have w1:w64 1=1:=zV (by omega) (by omega)
     have w2:w64 2=2:=zV (by omega) (by omega)
     have w3:w64 3=3:=zV (by omega) (by omega)
     have w4:w64 0=0:=zV (by omega) (by omega)
     rcases hk with hk | hk<;>rcases hpc with hpc | hpc | hpc<;>simp [h0,hk,hpc,w1,w2,w3,w4]<;>(try split)<;>simp [hpc,w1,w3,w4]
    ·have:(c.Out≠0\/(c.Kind≠1/\c.Kind≠2)\/c.PC<0\/3<=c.PC):= .inr (.inl (by omega))
     rw [if_pos this]
     have k1: ¬c.Kind=1:=by omega
     have k2: ¬c.Kind=2:=by omega
     simp [h0,k1,k2]
 ·have:(c.Out≠0\/(c.Kind≠1/\c.Kind≠2)\/c.PC<0\/3<=c.PC):= .inl h0
  rw [if_pos this]
  simp [h0]
end
end Go.Pe.G
namespace Go.Pe.G
open Go.Pe
noncomputable section
def uc (d:zd):BitVec 64:=BitVec.ofInt 64 (if d.Cap<1 then 1 else d.Cap)
def YN (d:zd) (i:BitVec 64):Int:=wc (wc (d.Base+2)+(i%uc d).toInt)
def yE (m:List (BitVec 64)) (d:zd):List (BitVec 64)×zd :=
 if d.Out≠0\/d.PC<0\/4<=d.PC then (m,d)
 else if d.PC=0 then (m,{d with B:=ld m (wc (d.Base+1)),PC:=1})
 else if d.PC=1 then (m,if uc d<=d.B-ld m d.Base then {d with T:=ld m d.Base,Out:=3,PC:=2} else {d with T:=ld m d.Base,PC:=2})
 else if d.PC=2 then (st m (YN d d.B) (BitVec.ofInt 64 d.X),{d with PC:=3})
 else (st m (wc (d.Base+1)) (d.B+1#64),{d with Out:=1,PC:=4})
theorem zxA:w64 0=0/\w64 1=1/\w64 2=2/\w64 3=3/\w64 4=4:=by
 refine ⟨?_,?_,?_,?_,?_⟩<;>exact zV (by omega) (by omega)
theorem zBX {d:zd}(h:d.Cap<1000):uc d≠0#64:=by
 unfold uc
 intro e
 have:=congrArg BitVec.toNat e
 rw [zHE] at this
 split at this<;>simp at this<;>omega
theorem znZ (d:zd):z5 d=some (uc d,()):=by
 rw [zkX];unfold uc;rw [zj]
theorem zf9 {d:zd}(h:d.Cap<1000) (i:BitVec 64):ua i d=some (YN d i,()):=by
 rw [zjD,xi,znZ,zGL,zj,if_neg (zBX h)];rfl
theorem zlk {m:List (BitVec 64)}(hm:m.length<4294967296) {d:zd}(hk:d.Kind=1) (hc:d.Cap<1000):zaJ m d=some ((yE m d).1,(yE m d).2,()):=by
 obtain ⟨w0,w1,w2,w3,w4⟩:=zxA
 have h0:wR m d=some (m,{d with B:=ld m (wc (d.Base+1))},()):=by
  rw [Wt,xk,xi,zGL,Yp];rfl
 have h1:WE m d=some (m,(if uc d<=d.B-ld m d.Base then {d with T:=ld m d.Base,Out:=3} else {d with T:=ld m d.Base}),()):=by
  rw [zhR,uY,zGL,Yp,zGL,znZ,zGL,zj]
  have e:uc {d with T:=ld m d.Base}=uc d:=rfl
  simp only [e]
  by_cases h:uc d<=d.B-ld m d.Base
  ·rw [if_pos h,if_pos h,wA]
   simp [hk]
  ·rw [if_neg h,if_neg h]
 have h2:zaf m d=some (st m (YN d d.B) (BitVec.ofInt 64 d.X),()):=by
  rw [zmD,zf9 hc,zGL,zcc hm];rfl
 have h3:YZ m d=some (st m (wc (d.Base+1)) (d.B+1#64),{d with Out:=1},()):=by
  rw [zeA,wA]
  simp only [decide_true,zG1,cond_false,zGL,xk,xi]
  rw [zcc hm];rfl
 rw [zlw,h0,h1,h2,h3,zh3]
 simp only [hk,decide_true,cond_true,zGL,yx,zj]
 have key:∀(x:Option (List (BitVec 64)×zd×Unit)) (v:List (BitVec 64)×zd×Unit) (y:Option (List (BitVec 64)×zd×Unit)),x=some v->Option.or x y=some v:=by
  rintro _ v y rfl;rfl
 apply key
 unfold yE
 by_cases g0:d.Out=0
 ·by_cases g1:d.PC<0
  ·simp [g0,g1]
  ·by_cases g2:4<=d.PC
   ·simp [g0,g2]
   ·have hpc:d.PC=0\/d.PC=1\/d.PC=2\/d.PC=3:=by omega
    rcases hpc with h | h | h | h<;>simp [g0,h,hk,w1,w2,w3,w4]<;>(try split)<;>simp [h,hk,w2]
 ·simp [g0]
def zZ (p:zb):Int:=wc (p.Workers*wc (p.Cap+2))
def zD (p:zb):Int:=wc (zZ p+1)
def zI (p:zb) (w:Int):Int:=wc (wc (w-1)*wc (p.Cap+2))
theorem zbe (p:zb):YO p=some (zZ p,()):=by rw [ztW,xi];rfl
theorem zbN (p:zb):Y5 p=some (zD p,()):=by rw [zsb,xi,zbe];rfl
theorem Uu (p:zb):ZK p=some (zD p,()):=by rw [ztN,zbN];rfl
theorem U0 (p:zb) (w:Int):yU p w=some (zI p w,()):=by rw [zr6,xi];rfl
def zhS (p:zb) (g:zu):zu:={g with PC:=5,C:=⟨2,0,zD p,zD p,0#64,0,0,0⟩}
theorem zn3 (a:zF):vW a=some (⟨zhS a.s.P a.Grey,a.s⟩,()):=by
 rw [zjQ,zbN,zGL,Uu,zGL,XY];rfl
def zlL (s:za) (g:zu):za×zu :=
 let t:=vw s.T g.Obj
 ({s with T:=t.1},
  if t.2=false then {g with PC:=2}
  else if g.Mode=1 then {g with PC:=3,D:=⟨1,0,zI s.P g.Who,s.P.Cap,0#64,0#64,g.Obj,0⟩}
  else if g.Mode=2 then {g with PC:=4}
  else zhS s.P g)
def zll (s:za) (g:zu):za×zu :=
 let r:=yE s.M g.D
 ({s with M:=r.1},if r.2.Out=1 then {g with D:=r.2,Out:=1} else if r.2.Out=3 then zhS s.P {g with D:=r.2} else {g with D:=r.2})
def zlD (s:za) (g:zu):za×zu :=
 let r:=zn s.M g.C
 ({s with M:=r.1},if r.2.Out=1 then {g with PC:=6,C:=r.2,Bin:=r.2.X} else if r.2.Out=2 then zhS s.P {g with C:=r.2} else {g with C:=r.2})
def zwZ (s:za) (g:zu):za×zu :=
 ({s with Bins:=s.Bins.set g.Bin.toNat [g.Obj]},{g with PC:=7,C:=⟨1,0,zZ s.P,zD s.P,0#64,g.Bin,0,0⟩})
def zcK (s:za) (g:zu):za×zu :=
 let r:=zn s.M g.C
 ({s with M:=r.1},if r.2.Out=1 then {g with C:=r.2,Out:=1} else {g with C:=r.2})
def zx (s:za) (g:zu):za×zu :=
 if g.Out≠0\/g.Mode<1\/3<g.Mode\/g.PC<0\/8<=g.PC then (s,g)
 else if g.PC=7 then zcK s g
 else if g.PC=6 then zwZ s g
 else if g.PC=5 then zlD s g
 else if g.PC=4 then ({s with Flag:=true},zhS s.P g)
 else if g.PC=3 then zll s g
 else if g.PC=2 then ({s with Work:=wc (s.Work-1)},{g with Out:=1})
 else if g.PC=1 then zlL s g
 else ({s with Work:=wc (s.Work+1)},{g with PC:=1})
structure GOk (s:za) (g:zu):Prop where
 mem:s.M.length<4294967296
 bins:s.Bins.length<4294967296
 bin:g.PC=6->0<=g.Bin/\g.Bin<s.Bins.length
 deq:g.PC=3->g.D.Kind=1/\g.D.Cap<1000
theorem zwr {s:za}{g:zu}(ok:GOk s g):zcg s g=some ((zx s g).1,(zx s g).2,()):=by
 rw [zvw]
 simp only [zj,yx]
 unfold zx
 by_cases h0:g.Out=0
 rotate_left
 ·rw [if_neg h0,if_pos (.inl h0)]
 rw [if_pos h0]
 by_cases h1:g.Mode<1
 ·rw [if_pos h1,if_pos (.inr (.inl h1))]
 rw [if_neg h1]
 by_cases h2:3<g.Mode
 ·rw [if_pos h2,if_pos (.inr (.inr (.inl h2)))]
 rw [if_neg h2]
 by_cases h3:g.PC<0
 ·rw [if_pos h3,if_pos (.inr (.inr (.inr (.inl h3))))]
 rw [if_neg h3]
 by_cases h4:8<=g.PC
 ·rw [if_pos h4,if_pos (.inr (.inr (.inr (.inr h4))))]
 rw [if_neg h4,if_neg (show ¬(g.Out≠0\/g.Mode<1\/3<g.Mode\/g.PC<0\/8<=g.PC) by omega)]
 by_cases p7:g.PC=7
 ·rw [if_pos p7,if_pos p7,zeY]
  simp only [zd8 ok.mem,zGL,zj]
  by_cases e:(zn s.M g.C).2.Out=1<;>simp [zcK,e]
 rw [if_neg p7,if_neg p7]
 by_cases p6:g.PC=6
 ·rw [if_pos p6,if_pos p6,ziL]
  obtain ⟨b1,b2⟩:=ok.bin p6
  simp only [zif ok.bins,zGL,wS (l:=s.Bins) b1 b2,zbe,Uu,XY]
  rfl
 rw [if_neg p6,if_neg p6]
 by_cases p5:g.PC=5
 ·rw [if_pos p5,if_pos p5,zin]
  simp only [zd8 ok.mem,zGL,zj,zn3]
  by_cases e:(zn s.M g.C).2.Out=1
  ·simp [zlD,e]
  ·by_cases e2:(zn s.M g.C).2.Out=2<;>simp [zlD,e,e2]
 rw [if_neg p5,if_neg p5]
 by_cases p4:g.PC=4
 ·rw [if_pos p4,if_pos p4,ziP,zn3];rfl
 rw [if_neg p4,if_neg p4]
 by_cases p3:g.PC=3
 ·rw [if_pos p3,if_pos p3,ziB]
  obtain ⟨b1,b2⟩:=ok.deq p3
  simp only [zlk ok.mem b1 b2,zGL,zj,zn3]
  by_cases e:(yE s.M g.D).2.Out=1
  ·simp [zll,e]
  ·by_cases e2:(yE s.M g.D).2.Out=3<;>simp [zll,e,e2]
 rw [if_neg p3,if_neg p3]
 by_cases p2:g.PC=2
 ·rw [if_pos p2,if_pos p2,zis,xi];rfl
 rw [if_neg p2,if_neg p2]
 by_cases p1:g.PC=1
 ·rw [if_pos p1,if_pos p1,ziQ]
  simp only [ztY,zGL,zj,zn3,U0,Uq]
  unfold zlL
  cases hs:(vw s.T g.Obj).2 with
  | false=>simp [hs]
  | true =>
   by_cases m1:g.Mode=1
   ·simp [hs,m1]
   ·by_cases m2:g.Mode=2<;>simp [hs,m1,m2]
 rw [if_neg p1,if_neg p1,if_pos (show g.PC=0 by omega),zfj,xi];rfl
end
end Go.Pe.G
namespace Go.Pe.G
open Go.Pe
noncomputable section
theorem vT {b k:Int}(h:0<=b) (hk:0<k):0<=b.tmod k/\b.tmod k<k:=by
 rw [Int.tmod_eq_emod_of_nonneg h];exact ⟨Int.emod_nonneg _ (by omega),Int.emod_lt_of_pos _ hk⟩
def zki (o:zm) (regs slots:Int):Prop:=(0<=o.R/\o.R<regs) /\
 ((o.Kind=1\/o.Kind=2)/\(0<=o.A/\o.A<regs)/\(0<=o.S/\o.S<slots)\/o.Kind=4/\(0<=o.A/\o.A<regs)/\o.S=0\/(o.Kind=3\/o.Kind=5)/\o.A=0/\o.S=0)
structure zB (p:zb):Prop where
 wk:1<=p.Workers/\p.Workers<=3
 mt:0<=p.Mutators/\p.Mutators<=2
 cap:1<=p.Cap/\p.Cap<=3
 buf:1<=p.Buf/\p.Buf<=2
 bin:1<=p.Bin/\p.Bin<=3
 price:0<=p.Price/\p.Price<=3
 limit:0<=p.Limit/\p.Limit<=3
 slots:1<=p.H.Slots/\p.H.Slots<=2
 n:1<=(p.H.Objs.length:Int)/\(p.H.Objs.length:Int)<=6
 objs:∀o∈p.H.Objs,(o.length:Int)=p.H.Slots/\∀v∈o,0<=v/\v<=(p.H.Objs.length:Int)
 most:(p.H.Objs.length:Int)<=p.Most/\p.Most<=(p.H.Objs.length:Int)+3
 roots:∃r,0<=r/\r<=(p.H.Objs.length:Int)/\p.Roots=bit r
 regs:(p.Regs.length:Int)=p.Mutators
 progs:(p.Progs.length:Int)=p.Mutators
 reg:∀r∈p.Regs,(1<=(r.length:Int)/\(r.length:Int)<=3)/\∀v∈r,0<=v/\v<=(p.H.Objs.length:Int)
 prog:∀(k:Nat) r ops,p.Regs[k]? =some r->p.Progs[k]? =some ops->(ops.length:Int)<=7/\∀o∈ops,zki o (r.length:Int) p.H.Slots
 picks:p.Picks=[]
end
end Go.Pe.G
namespace Go.Pe.G
open Go.Pe
noncomputable section
namespace B19
def WB (m:zG):Prop:=0<=m.At/\m.At<=m.L.length/\m.L.length<=90
theorem ux {m:zG}(h:WB m):∃b m',zC m=some (b,m',())/\(0<=b/\b<256)/\WB m':=by
 obtain ⟨h1,h2,h3⟩:=h
 rw [zeG,zj]
 by_cases h:(m.L.length:Int)<=m.At
 ·rw [if_pos h];exact ⟨_,_,rfl,by omega,h1,h2,h3⟩
 ·rw [if_neg h,zV (a:=m.At+1) (by omega) (by omega),zV (by omega) (by omega),w8 (by omega),zGN (by omega),zGL]
  exact ⟨_,_,rfl,by have:=(m.L[(m.At+1-1).toNat]'(by omega)).isLt;omega,show 0<=m.At+1 by omega,show m.At+1<=m.L.length by omega,h3⟩
theorem zFY {m:zG}(h:WB m) {regs slots:Int}(hr:1<=regs) (hs:1<=slots):∃o m',XX regs slots m=some (o,m',())/\zki o regs slots/\WB m':=by
 obtain ⟨b1,m1,e1,r1,k1⟩:=ux h
 obtain ⟨b2,m2,e2,r2,k2⟩:=ux k1
 obtain ⟨b3,m3,e3,r3,k3⟩:=ux k2
 obtain ⟨b4,m4,e4,r4,k4⟩:=ux k3
 have t1:=vT r1.1 (show (0:Int)<8 by omega)
 have t2:=vT r2.1 (show (0:Int)<regs by omega)
 have t3:=vT r3.1 (show (0:Int)<regs by omega)
 have t4:=vT r4.1 (show (0:Int)<slots by omega)
 have t5:=vT r3.1 (show (0:Int)<slots by omega)
 have hn: ¬regs=0:=by omega
 have hn2: ¬slots=0:=by omega
 rw [zhd,e1,zGL,wS t1.1 (by simpa using t1.2),zGL]
 have hx:b1.tmod 8=0\/b1.tmod 8=1\/b1.tmod 8=2\/b1.tmod 8=3\/b1.tmod 8=4\/b1.tmod 8=5\/b1.tmod 8=6\/b1.tmod 8=7:=by omega
 rcases hx with hx | hx | hx | hx | hx | hx | hx | hx<;>simp [hx,e2,e3,e4,hn,hn2]<;>refine ⟨_,_,⟨rfl,rfl⟩,?_,by assumption⟩<;>(unfold zki;dsimp only;omega)
theorem zDE {s1:Int}{s2:Int}{s4:Int}{s5:Int}{s6:Int}{s7:Int}{s8:Int}{s9:Int}{s10:Int}{s11:Int}{s12:Int}{s13:BitVec 64}{s15:Int}{s16:Int}{s17:Int}{s18:Int}{s19:Int}{s20:Int}{s21:Int}{s22:Int}{s23:Int}{s24:BitVec 64}{s26:List (List Int)}{s27:List (List Int)}{s28:List (List zm)}{s29:List zg}{s30:List (List Int)}{s31:List (List Int)}{s32:List (List zm)}{s33:List zg}(hn:1<=s1/\s1<=6) (hs:1<=s23/\s23<=2) {mk:zG}(hm:WB mk) :
  ∃mk' l,zP YQ (s1,s2,0,s4,s5,s6,s7,s8,s9,s10,s11,s12,s13,mk,s15,s16,s17,s18,s19,s20,s21,s22,s23,s24,[],s26,s27,s28,s29,s30,s31,s32,s33,())=some (.brk (s1,s2,s4,s5,s6,s7,s8,s9,s10,s11,s12,s13,mk',s15,s16,s17,s18,s19,s20,s21,s22,s23,s24,l,s26,s27,s28,s29,s30,s31,s32,s33,()))/\WB mk'/\(l.length:Int)=s23/\∀v∈l,0<=v/\v<=s1:=by
 refine (xV (f:=YQ)
  (fun a=>∃i mk l,a=(s1,s2,i,s4,s5,s6,s7,s8,s9,s10,s11,s12,s13,mk,s15,s16,s17,s18,s19,s20,s21,s22,s23,s24,l,s26,s27,s28,s29,s30,s31,s32,s33,())/\WB mk/\(0<=i/\i<=s23/\(l.length:Int)=i)/\∀v∈l,0<=v/\v<=s1)
  (fun a=>(s23-a.2.2.1).toNat)
  (fun o=>match o with | .brk b=>∃mk l,b=(s1,s2,s4,s5,s6,s7,s8,s9,s10,s11,s12,s13,mk,s15,s16,s17,s18,s19,s20,s21,s22,s23,s24,l,s26,s27,s28,s29,s30,s31,s32,s33,())/\WB mk/\(l.length:Int)=s23/\∀v∈l,0<=v/\v<=s1 | _=>False) ?_
  (s1,s2,0,s4,s5,s6,s7,s8,s9,s10,s11,s12,s13,mk,s15,s16,s17,s18,s19,s20,s21,s22,s23,s24,[],s26,s27,s28,s29,s30,s31,s32,s33,()) ⟨0,mk,[],rfl,hm,by simp;omega,by simp⟩ (ve (by simp;omega))).elim fun o h=>?_
 rotate_left
 ·obtain ⟨ho,hq⟩:=h
  cases o with
  | again a=>exact hq.elim
  | ret a=>exact hq.elim
  | brk b =>
   obtain ⟨mk',l,rfl,h1,h2,h3⟩:=hq
   exact ⟨mk',l,ho,h1,h2,h3⟩
 ·rintro _ ⟨i,mk,l,rfl,h1,h2,h3⟩
  rw [zi9,zj]
  by_cases hi:i<s23
  ·rw [if_pos hi]
   obtain ⟨b,mk',e,r,k⟩:=ux h1
   have w1:w64 (s1+1)=s1+1:=zV (by omega) (by omega)
   have t:=vT r.1 (show 0<s1+1 by omega)
   rw [e,zGL,w1,zj,if_neg (by omega),yq (by simp;omega),zGL,zV (a:=i+1) (by omega) (by omega)]
   refine ⟨_,rfl,⟨i+1,mk',l++[b.tmod (s1+1)],rfl,k,by simp;omega,fun v hv=>?_⟩,?_⟩
   ·rcases zG8.1 hv with hv | hv
    ·exact h3 v hv
    ·simp at hv;omega
   ·show (s23-(i+1)).toNat<(s23-i).toNat
    omega
  ·rw [if_neg hi]
   exact ⟨_,rfl,mk,l,rfl,h1,by omega,h3⟩
theorem zEs {s1:Int}{s3:Int}{s4:Int}{s5:Int}{s6:Int}{s7:Int}{s8:Int}{s9:Int}{s10:Int}{s11:Int}{s12:BitVec 64}{s14:Int}{s15:Int}{s16:Int}{s17:Int}{s18:Int}{s19:Int}{s20:Int}{s21:Int}{s22:Int}{s23:BitVec 64}{s24:List (List Int)}{s25:List (List Int)}{s26:List (List zm)}{s27:List zg}{s29:List (List Int)}{s30:List (List zm)}{s31:List zg}(hn:1<=s1/\s1<=6) (hs:1<=s22/\s22<=2) {mk:zG}(hm:WB mk) :
  ∃mk' l,zP Xu (s1,0,s3,s4,s5,s6,s7,s8,s9,s10,s11,s12,mk,s14,s15,s16,s17,s18,s19,s20,s21,s22,s23,s24,s25,s26,s27,[],s29,s30,s31,())=some (.brk (s1,s3,s4,s5,s6,s7,s8,s9,s10,s11,s12,mk',s14,s15,s16,s17,s18,s19,s20,s21,s22,s23,s24,s25,s26,s27,l,s29,s30,s31,()))/\WB mk'/\(l.length:Int)=s1/\∀o∈l,(o.length:Int)=s22/\∀v∈o,0<=v/\v<=s1:=by
 refine (xV (f:=Xu)
  (fun a=>∃i mk l,a=(s1,i,s3,s4,s5,s6,s7,s8,s9,s10,s11,s12,mk,s14,s15,s16,s17,s18,s19,s20,s21,s22,s23,s24,s25,s26,s27,l,s29,s30,s31,())/\WB mk/\(0<=i/\i<=s1/\(l.length:Int)=i)/\∀o∈l,(o.length:Int)=s22/\∀v∈o,0<=v/\v<=s1)
  (fun a=>(s1-a.2.1).toNat)
  (fun o=>match o with | .brk b=>∃mk l,b=(s1,s3,s4,s5,s6,s7,s8,s9,s10,s11,s12,mk,s14,s15,s16,s17,s18,s19,s20,s21,s22,s23,s24,s25,s26,s27,l,s29,s30,s31,())/\WB mk/\(l.length:Int)=s1/\∀o∈l,(o.length:Int)=s22/\∀v∈o,0<=v/\v<=s1 | _=>False) ?_
  (s1,0,s3,s4,s5,s6,s7,s8,s9,s10,s11,s12,mk,s14,s15,s16,s17,s18,s19,s20,s21,s22,s23,s24,s25,s26,s27,[],s29,s30,s31,()) ⟨0,mk,[],rfl,hm,by simp;omega,by simp⟩ (ve (by simp;omega))).elim fun o h=>?_
 rotate_left
 ·obtain ⟨ho,hq⟩:=h
  cases o with
  | again a=>exact hq.elim
  | ret a=>exact hq.elim
  | brk b =>
   obtain ⟨mk',l,rfl,h1,h2,h3⟩:=hq
   exact ⟨mk',l,ho,h1,h2,h3⟩
 ·rintro _ ⟨i,mk,l,rfl,h1,h2,h3⟩
  rw [zkN,zj]
  by_cases hi:i<s1
  ·rw [if_pos hi]
   obtain ⟨mk',o,e,g1,g2,g3⟩:=zDE hn hs h1
   rw [e]
   simp only [zGL]
   rw [yq (by simp;omega),zGL,zV (a:=i+1) (by omega) (by omega)]
   refine ⟨_,rfl,⟨i+1,mk',l++[o],rfl,g1,by simp;omega,fun v hv=>?_⟩,?_⟩
   ·rcases zG8.1 hv with hv | hv
    ·exact h3 v hv
    ·simp at hv;subst hv;exact ⟨g2,g3⟩
   ·show (s1-(i+1)).toNat<(s1-i).toNat
    omega
  ·rw [if_neg hi]
   exact ⟨_,rfl,mk,l,rfl,h1,by omega,h3⟩
theorem zD1 {s1:Int}{s2:Int}{s4:Int}{s5:Int}{s6:Int}{s7:Int}{s8:Int}{s9:Int}{s10:Int}{s11:Int}{s12:Int}{s13:BitVec 64}{s15:Int}{s16:Int}{s17:Int}{s18:Int}{s19:Int}{s20:Int}{s21:Int}{s22:Int}{s23:Int}{s24:BitVec 64}{s26:List (List Int)}{s27:List (List Int)}{s28:List (List zm)}{s29:List zg}{s30:List (List Int)}{s31:List (List Int)}{s32:List (List zm)}{s33:List zg}(hn:1<=s1/\s1<=6) {mk:zG}(hm:WB mk) :
  ∃mk' l,zP YV (s1,s2,0,s4,s5,s6,s7,s8,s9,s10,s11,s12,s13,mk,s15,s16,s17,s18,s19,s20,s21,s22,s23,s24,[],s26,s27,s28,s29,s30,s31,s32,s33,())=some (.brk (s1,s2,s4,s5,s6,s7,s8,s9,s10,s11,s12,s13,mk',s15,s16,s17,s18,s19,s20,s21,s22,s23,s24,l,s26,s27,s28,s29,s30,s31,s32,s33,()))/\WB mk'/\(1<=(l.length:Int)/\(l.length:Int)<=3)/\∀v∈l,0<=v/\v<=s1:=by
 refine (xV (f:=YV)
  (fun a=>∃i mk l,a=(s1,s2,i,s4,s5,s6,s7,s8,s9,s10,s11,s12,s13,mk,s15,s16,s17,s18,s19,s20,s21,s22,s23,s24,l,s26,s27,s28,s29,s30,s31,s32,s33,())/\WB mk/\(0<=i/\i<=3/\(l.length:Int)=i)/\∀v∈l,0<=v/\v<=s1)
  (fun a=>(3-a.2.2.1).toNat)
  (fun o=>match o with | .brk b=>∃mk l,b=(s1,s2,s4,s5,s6,s7,s8,s9,s10,s11,s12,s13,mk,s15,s16,s17,s18,s19,s20,s21,s22,s23,s24,l,s26,s27,s28,s29,s30,s31,s32,s33,())/\WB mk/\(1<=(l.length:Int)/\(l.length:Int)<=3)/\∀v∈l,0<=v/\v<=s1 | _=>False) ?_
  (s1,s2,0,s4,s5,s6,s7,s8,s9,s10,s11,s12,s13,mk,s15,s16,s17,s18,s19,s20,s21,s22,s23,s24,[],s26,s27,s28,s29,s30,s31,s32,s33,()) ⟨0,mk,[],rfl,hm,by simp,by simp⟩ (ve (by simp))).elim fun o h=>?_
 rotate_left
 ·obtain ⟨ho,hq⟩:=h
  cases o with
  | again a=>exact hq.elim
  | ret a=>exact hq.elim
  | brk b =>
   obtain ⟨mk',l,rfl,h1,h2,h3⟩:=hq
   exact ⟨mk',l,ho,h1,h2,h3⟩
 ·rintro _ ⟨i,mk,l,rfl,h1,h2,h3⟩
  obtain ⟨b0,mk0,e0,r0,k0⟩:=ux h1
  have t0:=vT r0.1 (show (0:Int)<3 by omega)
  rw [zkB,e0,zGL,zj,zV (a:=1+b0.tmod 3) (by omega) (by omega)]
  by_cases hi:i<1+b0.tmod 3
  ·rw [if_pos hi]
   obtain ⟨b,mk',e,r,k⟩:=ux k0
   have w1:w64 (s1+1)=s1+1:=zV (by omega) (by omega)
   have t:=vT r.1 (show 0<s1+1 by omega)
   rw [e,zGL,w1,zj,if_neg (by omega),yq (by simp;omega),zGL,zV (a:=i+1) (by omega) (by omega)]
   refine ⟨_,rfl,⟨i+1,mk',l++[b.tmod (s1+1)],rfl,k,by simp;omega,fun v hv=>?_⟩,?_⟩
   ·rcases zG8.1 hv with hv | hv
    ·exact h3 v hv
    ·simp at hv;omega
   ·show (3-(i+1)).toNat<(3-i).toNat
    omega
  ·rw [if_neg hi]
   exact ⟨_,rfl,mk0,l,rfl,k0,by omega,h3⟩
theorem zCT {s1:Int}{s2:Int}{s4:Int}{s5:Int}{s6:Int}{s7:Int}{s8:Int}{s9:Int}{s10:Int}{s11:Int}{s12:Int}{s13:BitVec 64}{s15:Int}{s16:Int}{s17:Int}{s18:Int}{s19:Int}{s20:Int}{s21:Int}{s22:Int}{s23:Int}{s24:BitVec 64}{s25:List Int}{s27:List (List Int)}{s28:List (List Int)}{s29:List (List zm)}{s30:List zg}{s31:List (List Int)}{s32:List (List Int)}{s33:List (List zm)}{s34:List zg}(hr:1<=(s25.length:Int)) (hs:1<=s23/\s23<=2) {k0:Int}(hk:0<=k0/\k0<8) {mk:zG}(hm:WB mk) :
  ∃mk' l,zP Zv (s1,s2,k0,s4,s5,s6,s7,s8,s9,s10,s11,s12,s13,mk,s15,s16,s17,s18,s19,s20,s21,s22,s23,s24,s25,[],s27,s28,s29,s30,s31,s32,s33,s34,())=some (.brk (s1,s2,s4,s5,s6,s7,s8,s9,s10,s11,s12,s13,mk',s15,s16,s17,s18,s19,s20,s21,s22,s23,s24,s25,l,s27,s28,s29,s30,s31,s32,s33,s34,()))/\WB mk'/\(l.length:Int)<=7/\∀o∈l,zki o (s25.length:Int) s23:=by
 refine (xV (f:=Zv)
  (fun a=>∃i mk l,a=(s1,s2,i,s4,s5,s6,s7,s8,s9,s10,s11,s12,s13,mk,s15,s16,s17,s18,s19,s20,s21,s22,s23,s24,s25,l,s27,s28,s29,s30,s31,s32,s33,s34,())/\WB mk/\(0<=i/\(l.length:Int)+i<=7)/\∀o∈l,zki o (s25.length:Int) s23)
  (fun a=>(a.2.2.1).toNat)
  (fun o=>match o with | .brk b=>∃mk l,b=(s1,s2,s4,s5,s6,s7,s8,s9,s10,s11,s12,s13,mk,s15,s16,s17,s18,s19,s20,s21,s22,s23,s24,s25,l,s27,s28,s29,s30,s31,s32,s33,s34,())/\WB mk/\(l.length:Int)<=7/\∀o∈l,zki o (s25.length:Int) s23 | _=>False) ?_
  (s1,s2,k0,s4,s5,s6,s7,s8,s9,s10,s11,s12,s13,mk,s15,s16,s17,s18,s19,s20,s21,s22,s23,s24,s25,[],s27,s28,s29,s30,s31,s32,s33,s34,()) ⟨k0,mk,[],rfl,hm,by simp;omega,by simp⟩ (ve (by simp;omega))).elim fun o h=>?_
 rotate_left
 ·obtain ⟨ho,hq⟩:=h
  cases o with
  | again a=>exact hq.elim
  | ret a=>exact hq.elim
  | brk b =>
   obtain ⟨mk',l,rfl,h1,h2,h3⟩:=hq
   exact ⟨mk',l,ho,h1,h2,h3⟩
 ·rintro _ ⟨i,mk,l,rfl,h1,h2,h3⟩
  rw [zkn,zj]
  by_cases hi:0<i
  ·rw [if_pos hi]
   obtain ⟨o,mk',e,r,k⟩:=zFY h1 hr hs.1
   rw [e,zGL,yq (by simp;omega),zGL,zV (a:=i-1) (by omega) (by omega)]
   refine ⟨_,rfl,⟨i-1,mk',l++[o],rfl,k,by simp;omega,fun v hv=>?_⟩,?_⟩
   ·rcases zG8.1 hv with hv | hv
    ·exact h3 v hv
    ·simp at hv;subst hv;exact r
   ·show (i-1).toNat<i.toNat
    omega
  ·rw [if_neg hi]
   exact ⟨_,rfl,mk,l,rfl,h1,by omega,h3⟩
theorem zDw {s1:Int}{s3:Int}{s4:Int}{s5:Int}{s6:Int}{s7:Int}{s8:Int}{s9:Int}{s10:Int}{s11:Int}{s12:BitVec 64}{s14:Int}{s15:Int}{s16:Int}{s17:Int}{s18:Int}{s19:Int}{s20:Int}{s21:Int}{s22:Int}{s23:BitVec 64}{s24:List (List Int)}{s25:List (List Int)}{s26:List (List zm)}{s27:List zg}{s28:List (List Int)}{s31:List zg}(hn:1<=s1/\s1<=6) (hm0:0<=s15/\s15<=2) (hs:1<=s22/\s22<=2) {mk:zG}(hm:WB mk) :
  ∃regs progs,zP YW (s1,0,s3,s4,s5,s6,s7,s8,s9,s10,s11,s12,mk,s14,s15,s16,s17,s18,s19,s20,s21,s22,s23,s24,s25,s26,s27,s28,[],[],s31,())=some (.brk (s3,s4,s5,s6,s7,s8,s9,s10,s11,s12,s14,s15,s16,s17,s18,s19,s20,s21,s22,s23,s24,s25,s26,s27,s28,regs,progs,s31,()))/\(regs.length:Int)=s15/\(regs.length=progs.length)/\(∀r∈regs,(1<=(r.length:Int)/\(r.length:Int)<=3)/\∀v∈r,0<=v/\v<=s1)/\∀(k:Nat) r ops,regs[k]? =some r->progs[k]? =some ops->(ops.length:Int)<=7/\∀o∈ops,zki o (r.length:Int) s22:=by
 refine (xV (f:=YW)
  (fun a=>∃i mk regs progs,a=(s1,i,s3,s4,s5,s6,s7,s8,s9,s10,s11,s12,mk,s14,s15,s16,s17,s18,s19,s20,s21,s22,s23,s24,s25,s26,s27,s28,regs,progs,s31,())/\WB mk/\(0<=i/\i<=s15/\(regs.length:Int)=i)/\(regs.length=progs.length)/\(∀r∈regs,(1<=(r.length:Int)/\(r.length:Int)<=3)/\∀v∈r,0<=v/\v<=s1)/\∀(k:Nat) r ops,regs[k]? =some r->progs[k]? =some ops->(ops.length:Int)<=7/\∀o∈ops,zki o (r.length:Int) s22)
  (fun a=>(s15-a.2.1).toNat)
  (fun o=>match o with | .brk b=>∃regs progs,b=(s3,s4,s5,s6,s7,s8,s9,s10,s11,s12,s14,s15,s16,s17,s18,s19,s20,s21,s22,s23,s24,s25,s26,s27,s28,regs,progs,s31,())/\(regs.length:Int)=s15/\(regs.length=progs.length)/\(∀r∈regs,(1<=(r.length:Int)/\(r.length:Int)<=3)/\∀v∈r,0<=v/\v<=s1)/\∀(k:Nat) r ops,regs[k]? =some r->progs[k]? =some ops->(ops.length:Int)<=7/\∀o∈ops,zki o (r.length:Int) s22 | _=>False) ?_
  (s1,0,s3,s4,s5,s6,s7,s8,s9,s10,s11,s12,mk,s14,s15,s16,s17,s18,s19,s20,s21,s22,s23,s24,s25,s26,s27,s28,[],[],s31,()) ⟨0,mk,[],[],rfl,hm,by simp;omega,rfl,by simp,by simp⟩ (ve (by simp;omega))).elim fun o h=>?_
 rotate_left
 ·obtain ⟨ho,hq⟩:=h
  cases o with
  | again a=>exact hq.elim
  | ret a=>exact hq.elim
  | brk b =>
   obtain ⟨regs,progs,rfl,h⟩:=hq
   exact ⟨regs,progs,ho,h⟩
 ·rintro _ ⟨i,mk,regs,progs,rfl,h1,h2,h3,h4,h5⟩
  rw [zjI,zj]
  by_cases hi:i<s15
  ·rw [if_pos hi]
   obtain ⟨mk1,r,e,g1,g2,g3⟩:=zD1 hn h1
   rw [e]
   simp only [zGL]
   rw [zj,if_neg (by omega)]
   obtain ⟨b,mk2,e2,r2,k2⟩:=ux g1
   rw [e2,zGL]
   obtain ⟨mk3,ops,e3,f1,f2,f3⟩:=zCT (s25:=r) g2.1 hs (vT r2.1 (show (0:Int)<8 by omega)) k2
   rw [e3]
   simp only [zGL]
   rw [yq (by simp;omega),zGL,yq (by simp;omega),zGL,zV (a:=i+1) (by omega) (by omega)]
   refine ⟨_,rfl,⟨i+1,mk3,regs++[r],progs++[ops],rfl,f1,by simp;omega,by simp [h3],fun v hv=>?_,fun k r' ops' hk1 hk2=>?_⟩,?_⟩
   ·rcases zG8.1 hv with hv | hv
    ·exact h4 v hv
    ·simp at hv;subst hv;exact ⟨g2,g3⟩
   ·rcases zHk k regs.length with hlt | hge
    ·rw [zHe hlt] at hk1
     rw [zHe (by omega)] at hk2
     exact h5 k r' ops' hk1 hk2
    ·rw [zHm hge] at hk1
     rw [zHm (by omega),<-h3] at hk2
     have hk0:k-regs.length=0:=by
      have:=(zGX.1 hk1).1
      simpa using this
     rw [hk0] at hk1 hk2
     simp at hk1 hk2
     subst hk1;subst hk2
     exact ⟨f2,f3⟩
   ·show (s15-(i+1)).toNat<(s15-i).toNat
    omega
  ·rw [if_neg hi]
   exact ⟨_,rfl,regs,progs,rfl,by omega,h3,h4,h5⟩
theorem zEj (l:List (BitVec 8)):∃p,zbF l=some (p,())/\zB p:=by
 rw [znJ,zj]
 obtain ⟨m,em,hl⟩:∃m,cut l 0 (if 90<(l.length:Int) then 90 else (l.length:Int))=some m/\m.length<=90:=by
  unfold cut
  by_cases h:90<(l.length:Int)
  ·have h2:(90:Int)<=l.length:=by omega
   rw [if_pos h];exact ⟨l.take 90,by simp [h2],List.length_take_le _ _⟩
  ·rw [if_neg h];exact ⟨l,by simp,by omega⟩
 rw [em,zGL]
 obtain ⟨b1,m1,e1,r1,k1⟩:=ux (m:=⟨m,0⟩) ⟨by simp,by simp,hl⟩
 obtain ⟨b2,m2,e2,r2,k2⟩:=ux k1
 obtain ⟨b3,m3,e3,r3,k3⟩:=ux k2
 obtain ⟨b4,m4,e4,r4,k4⟩:=ux k3
 obtain ⟨b5,m5,e5,r5,k5⟩:=ux k4
 obtain ⟨b6,m6,e6,r6,k6⟩:=ux k5
 obtain ⟨b7,m7,e7,r7,k7⟩:=ux k6
 obtain ⟨b8,m8,e8,r8,k8⟩:=ux k7
 obtain ⟨b9,m9,e9,r9,k9⟩:=ux k8
 obtain ⟨b10,m10,e10,r10,k10⟩:=ux k9
 simp only [e1,e2,e3,e4,e5,e6,e7,e8,e9,e10,zGL]
 have t1:=vT r1.1 (show (0:Int)<3 by omega)
 have t2:=vT r2.1 (show (0:Int)<3 by omega)
 have t3:=vT r3.1 (show (0:Int)<3 by omega)
 have t4:=vT r4.1 (show (0:Int)<2 by omega)
 have t5:=vT r5.1 (show (0:Int)<3 by omega)
 have t6:=vT r6.1 (show (0:Int)<4 by omega)
 have t7:=vT r7.1 (show (0:Int)<4 by omega)
 have t8:=vT r8.1 (show (0:Int)<2 by omega)
 have t9:=vT r9.1 (show (0:Int)<6 by omega)
 have t10:=vT r10.1 (show (0:Int)<4 by omega)
 rw [zV (a:=1+b9.tmod 6) (by omega) (by omega),zV (a:=1+b1.tmod 3) (by omega) (by omega),zV (a:=1+b3.tmod 3) (by omega) (by omega),zV (a:=1+b4.tmod 2) (by omega) (by omega),zV (a:=1+b5.tmod 3) (by omega) (by omega),
  zV (a:=1+b9.tmod 6+b10.tmod 4) (by omega) (by omega),zV (a:=1+b8.tmod 2) (by omega) (by omega)]
 obtain ⟨m11,objs,e11,g1,g2,g3⟩:=zEs (s1:=1+b9.tmod 6) (s22:=1+b8.tmod 2) (by omega) (by omega) k10
 rw [e11]
 simp only [zGL]
 obtain ⟨b12,m12,e12,r12,k12⟩:=ux g1
 rw [e12,zGL,zV (a:=1+b9.tmod 6+1) (by omega) (by omega),zj,if_neg (by omega)]
 have t12:=vT r12.1 (show (0:Int)<1+b9.tmod 6+1 by omega)
 rw [zfq,zGL]
 obtain ⟨regs,progs,e13,f1,f2,f3,f4⟩:=zDw (s1:=1+b9.tmod 6) (s15:=b2.tmod 3) (s22:=1+b8.tmod 2) (by omega) (by omega) (by omega) k12
 rw [e13]
 simp only [zGL]
 refine ⟨_,rfl,?_⟩
 constructor<;>dsimp only
 case objs=>intro o ho;rw [g2];exact g3 o ho
 case roots=>exact ⟨b12.tmod (1+b9.tmod 6+1),by omega,by omega,by simp⟩
 case reg=>rw [g2];exact f3
 case prog=>exact f4
 all_goals first | omega | rfl
end B19
end
end Go.Pe.G
namespace Go.Pe.G
open Go.Pe
noncomputable section
theorem zbo {α β B C:Type}{f:List α×Int×Int×β->Option (yC (List α×Int×Int×β) B C)}{l:List α}{e:β}{b:B}(hl:l.length<1000000)
  (h1:∀(i:Nat) (x:α),l[i]? =some x->f (l,(l.length:Int),(i:Int),e)=some (.again (l,(l.length:Int),((i+1:Nat):Int),e)))
  (h2:f (l,(l.length:Int),(l.length:Int),e)=some (.brk b)):zP f (l,(l.length:Int),0,e)=some (.brk b):=by
 refine (xV (f:=f) (fun a=>∃i:Nat,a=(l,(l.length:Int),(i:Int),e)/\i<=l.length) (fun a=>l.length-a.2.2.1.toNat) (fun o=>o= .brk b) ?_ (l,(l.length:Int),0,e) ⟨0,rfl,by omega⟩ (ve (by simp;omega))).elim fun o h=>?_
 rotate_left
 ·rw [h.1,h.2]
 ·rintro _ ⟨i,rfl,hi⟩
  rcases zHk i l.length with hlt | hge
  ·refine ⟨_,h1 i _ (zGN hlt),⟨i+1,rfl,hlt⟩,?_⟩
   show l.length-((i+1:Nat):Int).toNat<l.length-(i:Int).toNat
   omega
  ·have:i=l.length:=by omega
   subst this
   exact ⟨_,h2,rfl⟩
theorem xu {α:Type}{l:List α}{i:Nat}{x:α}(h:l[i]? =some x):idx l (i:Int)=some x:=by
 rw [w8 (by omega)];simpa using h
theorem zhb {α:Type}{l:List α}{i:Nat}{x:α}(h:l[i]? =some x):(i:Int)<(l.length:Int):=by
 have:=(zGX.1 h).1;omega
theorem yz {i:Nat}(h:i<1000000):w64 ((i:Int)+1)=((i+1:Nat):Int):=by
 rw [zV (by omega) (by omega)];omega
theorem zgk (a b c:Int):ur a b c=some (decide (b<=a/\a<=c),()):=by
 rw [zsu,zj]
 by_cases h:b<=a
 ·rw [if_pos h];simp [h]
 ·rw [if_neg h];simp [h]
theorem zAN {l:List Int}{h:zo}(hl:l.length<1000000) (hv:∀v∈l,0<=v/\v<=(h.Objs.length:Int)):xW l h=some (false,()):=by
 rw [Xj,XV,zbo (b:=()) hl (fun i x hx=>?_) (by rw [vH];simp)]
 ·rfl
 ·have hm:=hv x (zGT hx)
  have hlt:=zhb hx
  rw [vH,zj,if_pos hlt,xu hx,zGL,zo4,zj,if_neg (show ¬x<0 by omega),zGL,yz (by omega)]
  simp [show ¬(h.Objs.length:Int)<x by omega]
theorem zCc {l:List Int}{n:Int}(hl:l.length<1000000) (hv:∀v∈l,0<=v/\v<=n):wm l n=some (false,()):=by
 rw [XN,WJ,zbo (b:=()) hl (fun i x hx=>?_) (by rw [vY];simp)]
 ·rfl
 ·have hm:=hv x (zGT hx)
  have hlt:=zhb hx
  rw [vY,xu hx,zGL,zrg,zgk,zGL,zGL,yz (by omega),zj,if_pos hlt]
  simp [hm]
theorem zws {l:List (List Int)}{h:zo}(hl:l.length<1000000) (hs:h.Slots<1000000) (hv:∀o∈l,(o.length:Int)=h.Slots/\∀v∈o,0<=v/\v<=(h.Objs.length:Int)):xX l h=some (false,()):=by
 rw [Xm,XP,zbo (b:=()) hl (fun i x hx=>?_) (by rw [vF];simp)]
 ·rfl
 ·have hm:=hv x (zGT hx)
  have hlt:=zhb hx
  rw [vF,xu hx,zGL,zrd,yx,if_pos hm.1,zAN (by omega) hm.2,zGL,zGL,yz (by omega),zj,if_pos hlt]
  rfl
theorem ztU {r n:Int}(h:0<=r/\r<n) (h2:n<=4):z6 r n=some (true,()):=by
 rw [zq4,zj,if_pos h.1,zj]
 rw [if_neg (by omega)]
 simp [h.2]
theorem zC0 {o:zm}{regs slots:Int}(h:zki o regs slots) (h2:regs<=4) (h3:slots<=4):zjU o regs slots=some (true,()):=by
 obtain ⟨hr,h⟩:=h
 have e1:=ztU hr h2
 have h4: ¬4<slots:=by omega
 rw [ztA]
 rcases h with ⟨hk | hk,ha,hs⟩ | ⟨hk,ha,hs⟩ | ⟨hk | hk,ha,hs⟩
 ·have e2:=ztU ha h2
  simp [hk,e1,e2,hs.1,hs.2,h4]
 ·have e2:=ztU ha h2
  simp [hk,e1,e2,hs.1,hs.2,h4]
 ·have e2:=ztU ha h2
  simp [hk,e1,e2,hs]
 ·simp [hk,e1,ha,hs]
 ·simp [hk,e1,ha,hs]
theorem zEl {l:List zm}{regs slots:Int}(hl:(l.length:Int)<=64) (h:∀o∈l,zki o regs slots) (h2:regs<=4) (h3:slots<=4):zmb l regs slots=some (true,()):=by
 rw [zuU,zj,if_pos hl,Yk,YP,zbo (b:=()) (by omega) (fun i x hx=>?_) (by rw [wU];simp)]
 ·rfl
 ·have hlt:=zhb hx
  rw [wU,xu hx,zGL,zrH,zC0 (h x (zGT hx)) h2 h3,zGL,zGL,yz (by omega),zj,if_pos hlt]
  rfl
theorem zCB (a b:Int):zjO [] a b=some (true,()):=by
 rw [ztf,ZI,Z5,zbo (b:=()) (by simp) (fun i x hx=>by simp at hx) (by rw [ZH];simp)]
 rfl
def wG (n:Int):BitVec 64:=if n<1 then 0#64 else 18446744073709551615#64 >>> (64-min n 64).toNat
theorem zl0 (n:Int) (h:0<=n):U7 n=some (wG n,()):=by
 rw [zve,zj]
 unfold wG
 by_cases h1:n<1
 ·rw [if_pos h1,if_pos h1]
 ·rw [if_neg h1,if_neg h1]
  simp only [zj]
  have e:(if 64<n then (64:Int) else n)=min n 64:=by
   by_cases h2:64<n
   ·rw [if_pos h2];omega
   ·rw [if_neg h2];omega
  rw [e,zV (by omega) (by omega),if_neg (by omega),Nat.min_eq_left (by omega)]
theorem zvU:∀(r n:Fin 7),r.1<=n.1->bit (r.1:Int)&&& ~~~wG (n.1:Int)=0#64:=by decide
theorem zrt {p:zb}(h:zB p):p.Roots&&& ~~~wG (p.H.Objs.length:Int)=0#64:=by
 obtain ⟨r,h1,h2,h3⟩:=h.roots
 have hn:=h.n
 have:=zvU ⟨r.toNat,by omega⟩ ⟨p.H.Objs.length,by omega⟩ (by show r.toNat<=p.H.Objs.length;omega)
 rw [h3]
 simpa [Int.toNat_of_nonneg h1] using this
theorem zBn {p:zb}(h:zB p):zbI p=some (true,()):=by
 obtain ⟨h1,h2,h3,h4,h5,h6,h7,_⟩:=h
 rw [znM]
 simp only [zgk,zGL,zj]
 rw [if_pos (by omega),if_pos (by omega),if_pos (by omega),if_pos (by omega),if_pos (by omega),if_pos (by split<;>omega)]
 have:(if p.Price<p.Limit then p.Limit else p.Price)<=1000000:=by split<;>omega
 simp [this]
theorem zAw {p:zb}(h:zB p):zaM p.H=some (true,()):=by
 have:=h.slots
 have:=h.n
 rw [zlC,zj,if_pos (by omega),zj,if_pos (by omega),zj,if_pos (by omega),zws (by omega) (by omega) h.objs]
 rfl
theorem zA7 {p:zb}(h:zB p):zjp p=some (true,()):=by
 have hn:=h.n
 have hm:=h.most
 have hsl:=h.slots
 have hmt:=h.mt
 have hrl:=h.regs
 have hpl:=h.progs
 rw [zs3,zBn h]
 simp only [zGL,zG1,cond_false,zAw h,zgk]
 rw [show decide ((p.H.Objs.length:Int)<=p.Most/\p.Most<=64)=true by simp;omega]
 simp only [zG1,cond_false,zl0 _ (show (0:Int)<=(p.H.Objs.length:Int) by omega),zGL,zfl,zrt h,decide_true,yx,if_pos h.regs,if_pos h.progs]
 rw [zbo (b:=(p,())) (by omega) (fun i x hx=>?_) (by rw [zhc];simp)]
 ·simp [h.picks,zCB]
 ·have hlt:=zhb hx
  have hr:=h.reg x (zGT hx)
  obtain ⟨ops,hops⟩:∃ops,p.Progs[i]? =some ops:=⟨_,zGN (by omega)⟩
  obtain ⟨o1,o2⟩:=h.prog i x ops hx hops
  rw [zhc,zj,if_pos hlt,xu hx]
  simp only [zGL,zgk]
  rw [show decide (1<=(x.length:Int)/\(x.length:Int)<=4)=true by simp;omega]
  simp only [zG1,cond_false,zCc (show x.length<1000000 by omega) hr.2,zGL,xu hops,zEl (show (ops.length:Int)<=64 by omega) o2 (show (x.length:Int)<=4 by omega) (show p.H.Slots<=4 by omega),yz (show i<1000000 by omega)]
end
end Go.Pe.G
namespace Go.Pe.G
open Go.Pe
noncomputable section
theorem zkC {n:Int}(h:0<=n) (h2:n<4294967296):Wj n=some n.toNat:=by rw [zlq];simp [h,h2]
theorem zvL {n:Int}(h:0<n) (h2:n<4294967296):zgt n=some n.toNat:=by rw [zs4];simp [h,h2]
def zgl (l:List Int):BitVec 64:=l.foldl (fun s o=>s|||bit o) 0#64
def Zk (p:zb):BitVec 64:=p.Regs.foldl (fun s l=>s|||zgl l) p.Roots
def zGj (a1:BitVec 64):BitVec 64 :=
 let a:=((a1 >>> 1)&&&6148914691236517205#64)+(a1&&&6148914691236517205#64)
 let b:=((a >>> 2)&&&3689348814741910323#64)+(a&&&3689348814741910323#64)
 let c:=((b >>> 4)+b)&&&1085102592571150095#64
 let d:=c+(c >>> 8)
 let e:=d+(d >>> 16)
 e+(e >>> 32)
def cnt (s:BitVec 64):Int:=(BitVec.ofInt 64 (zGj s).toInt&&&BitVec.ofInt 64 127).toInt
theorem zCL (s:BitVec 64):zml s=some (cnt s,()):=by
 rw [zu9,zm5,zyY];rfl
theorem XH {m:List Int}(h:m.length<4294967296):yB m=some (m,()):=by
 rw [zhp,zGV,yq h,zGL]
 cases m with
 | nil=>simp [zc5]
 | cons a l=>simp
theorem zyA {l:List Int}(hl:l.length<1000000):zjv l=some (zgl l,()):=by
 rw [zzj]
 refine (xV (f:=zmo) (fun a=>∃i:Nat,a=((l.take i).foldl (fun s o=>s|||bit o) 0#64,l,(l.length:Int),(i:Int),())/\i<=l.length) (fun a=>l.length-a.2.2.2.1.toNat) (fun o=>o= .brk (zgl l,())) ?_ (0#64,l,(l.length:Int),0,()) ⟨0,rfl,by omega⟩ (ve (by simp;omega))).elim fun o h=>?_
 rotate_left
 ·rw [h.1,h.2];rfl
 ·rintro _ ⟨i,rfl,hi⟩
  rw [zuY,zj]
  rcases zHk i l.length with hlt | hge
  ·have hx:=zGN hlt
   rw [if_pos (by omega),xu hx,zGL,zfq,zGL,yz (by omega)]
   refine ⟨_,rfl,⟨i+1,?_,hlt⟩,?_⟩
   ·rw [zH4,hx];simp only [Option.toList_some,List.foldl_append,zHH,List.foldl_nil]
   ·show l.length-((i+1:Nat):Int).toNat<l.length-(i:Int).toNat
    omega
  ·rw [if_neg (by omega)]
   have:i=l.length:=by omega
   subst this
   exact ⟨_,rfl,by rw [zIm];rfl⟩
theorem zAZ {p:zb}(hl:p.Regs.length<1000000) (hr:∀r∈p.Regs,r.length<1000000):zjn p=some (Zk p,()):=by
 rw [zty]
 refine (xV (f:=zdZ) (fun a=>∃i:Nat,a=((p.Regs.take i).foldl (fun s l=>s|||zgl l) p.Roots,p.Regs,(p.Regs.length:Int),(i:Int),())/\i<=p.Regs.length) (fun a=>p.Regs.length-a.2.2.2.1.toNat) (fun o=>o= .brk (Zk p,())) ?_ (p.Roots,p.Regs,(p.Regs.length:Int),0,()) ⟨0,rfl,by omega⟩ (ve (by simp;omega))).elim fun o h=>?_
 rotate_left
 ·rw [h.1,h.2];rfl
 ·rintro _ ⟨i,rfl,hi⟩
  rw [zpx,zj]
  rcases zHk i p.Regs.length with hlt | hge
  ·have hx:=zGN hlt
   rw [if_pos (by omega),xu hx,zGL,zyA (hr _ (zHi hlt)),zGL,yz (by omega)]
   refine ⟨_,rfl,⟨i+1,?_,hlt⟩,?_⟩
   ·rw [zH4,hx];simp only [Option.toList_some,List.foldl_append,zHH,List.foldl_nil]
   ·show p.Regs.length-((i+1:Nat):Int).toNat<p.Regs.length-(i:Int).toNat
    omega
  ·rw [if_neg (by omega)]
   have:i=p.Regs.length:=by omega
   subst this
   exact ⟨_,rfl,by rw [zIm];rfl⟩
theorem zBK {l:List (List Int)}(hl:l.length<1000000) (h:∀r∈l,r.length<1000000):wN l=some (l,()):=by
 have key:∀n:Int,n=(l.length:Int)->zP yF (n,0,l,())=some (.brk (l,())):=by
  rintro _ rfl
  refine (xV (f:=yF) (fun a=>∃i:Nat,a=((l.length:Int),(i:Int),l,())/\i<=l.length) (fun a=>l.length-a.2.1.toNat) (fun o=>o= .brk (l,())) ?_ ((l.length:Int),0,l,()) ⟨0,rfl,by omega⟩ (ve (by simp;omega))).elim fun o h=>?_
  rotate_left
  ·rw [h.1,h.2]
  ·rintro _ ⟨i,rfl,hi⟩
   rw [X7,zj]
   rcases zHk i l.length with hlt | hge
   ·have hx:=zGN hlt
    have hr:=h _ (zHi hlt)
    have e:xx l (i:Int)=some i:=by rw [wS (by omega) (by omega)];simp
    rw [if_pos (by omega),e]
    simp only [zGL]
    rw [hx,zGL,XH (by omega),zGL,yz (by omega)]
    refine ⟨_,rfl,⟨i+1,by simp,hlt⟩,?_⟩
    show l.length-((i+1:Nat):Int).toNat<l.length-(i:Int).toNat
    omega
   ·rw [if_neg (by omega)]
    have:i=l.length:=by omega
    subst this
    exact ⟨_,rfl,rfl⟩
 have hc:Wj (l.length:Int)=some l.length:=by rw [zkC (by omega) (by omega)];simp
 rw [W4]
 simp only [decide_true,cond_true,hc,zGL,zHC]
 cases l with
 | nil=>simp;rw [key 0 rfl];rfl
 | cons a r=>simp only [List.isEmpty_cons,cond_false];rw [key _ rfl];rfl
def zgB (cap:Int):List (BitVec 64):=[1#64,1#64]++List.replicate cap.toNat 0#64
theorem zza {c:Int}(h:1<=c) (h2:c<=64):zhs c=some (zgB c,()):=by
 have e:(if 64<(if c<1 then (1:Int) else c) then (64:Int) else (if c<1 then (1:Int) else c))=c:=by
  rw [if_neg (show ¬c<1 by omega),if_neg (by omega)]
 have w:w64 (2+c)=2+c:=zV (by omega) (by omega)
 have hc:Wj (2+c)=some (2+c.toNat):=by rw [zkC (by omega) (by omega)];congr 1;omega
 rw [zsv]
 simp only [zj,e,w,if_true,hc,zGL]
 rw [wS (by omega) (by simp;omega),zGL,wS (by omega) (by simp;omega),zGL]
 have e2:List.replicate (2+c.toNat) 0#64=0#64::0#64::List.replicate c.toNat 0#64:=by rw [Nat.add_comm 2];rfl
 rw [e2];rfl
theorem zAz {m:Int}(h:0<=m) (h2:m<=16):zkc m=some (⟨0,0,0,List.replicate m.toNat 0⟩,()):=by
 have e:(if (if 16<m then (16:Int) else m)<0 then (0:Int) else (if 16<m then (16:Int) else m))=m:=by
  rw [if_neg (show ¬16<m by omega),if_neg (by omega)]
 have hc:Wj m=some m.toNat:=zkC (by omega) (by omega)
 rw [ztP]
 simp only [zj,e,if_true,hc,zGL]
def links (m:List (BitVec 64)) (next:Int):List Int->List (BitVec 64)
 | []=>m
 | [a]=>st m (wc (next+a)) 0#64
 | a::b::l=>links (st m (wc (next+a)) (BitVec.ofInt 64 b)) next (b::l)
def zcA (m:List (BitVec 64)) (head next:Int) (l:List Int):List (BitVec 64):=st (links m next l) head (xd 0#64 (l.headD 0))
theorem ZS (m:List (BitVec 64)) (a:Int) (v:BitVec 64):(st m a v).length=m.length:=by unfold st;split<;>simp
theorem zcR:∀(l:List Int) (m:List (BitVec 64)) (n:Int),(links m n l).length=m.length
 | [],_,_=>rfl
 | [a],m,n=>ZS _ _ _
 | a::b::l,m,n=>by simp only [links];rw [zcR (b::l),ZS]
theorem zsc (m:List (BitVec 64)) (h n:Int) (l:List Int):(zcA m h n l).length=m.length:=by unfold zcA;rw [ZS,zcR]
theorem zrP {head next:Int}{l:List Int}(hl:l.length<1000000):∀(k:Nat) (m:List (BitVec 64)) (i:Nat),l.length-i=k->i<=l.length->m.length<4294967296 ->
  ∀n,k<n->xw zfr n (m,head,next,l,(l.length:Int),(i:Int),())=some (.brk (links m next (l.drop i),head,l,()))
 | 0,m,i,hk,hi,hm,n+1,hn=>by
  have:i=l.length:=by omega
  subst this
  simp only [xw]
  rw [zh7,zj,if_neg (by omega),zGL,List.drop_length];rfl
 | k+1,m,i,hk,hi,hm,n+1,hn=>by
  have hlt:i<l.length:=by omega
  have hx:=zGN hlt
  simp only [xw]
  rw [zh7,zj,if_pos (by omega),yz (by omega),zj,xi]
  by_cases h2:i+1<l.length
  ·have hy:=zGN h2
   have ed:l.drop i=l[i]::l[i+1]::l.drop (i+2):=by
    rw [zHz hlt,zHz h2]
   rw [if_pos (by omega),xu hy,zGL,xu hx,zGL,zcj hm,zGL,zGL]
   dsimp only
   rw [zrP hl k _ (i+1) (by omega) (by omega) (by rw [ZS];exact hm) n (by omega),ed]
   rw [zHz h2];rfl
  ·have ed:l.drop i=[l[i]]:=by
    rw [zHz hlt,zIi (by omega)]
   rw [if_neg (by omega),xu hx,zGL,zcj hm,zGL,zGL]
   dsimp only
   rw [zrP hl k _ (i+1) (by omega) (by omega) (by rw [ZS];exact hm) n (by omega),ed,zIi (by omega)]
   rfl
theorem zv1 {m:List (BitVec 64)}(hm:m.length<4294967296) {head next:Int}{l:List Int}(hl:l.length<1000000):zfX m head next l=some (zcA m head next l,()):=by
 have e:=zrP (head:=head) (next:=next) hl l.length m 0 (by omega) (by omega) hm vQ (ve (by omega))
 rw [show ((0:Nat):Int)=0 from rfl] at e
 rw [zvz,Wf,e]
 simp only [zGL,List.drop_zero,zj]
 unfold zcA
 cases l with
 | nil =>
  rw [if_neg (by simp),zil,zGL,zcj (by rw [zcR];exact hm)];rfl
 | cons a r =>
  have:idx (a::r) 0=some a:=by rw [w8 (by omega)];rfl
  rw [if_pos (by simp),this,zGL,zil,zGL,zcj (by rw [zcR];exact hm)];rfl
def znR:Nat->BitVec 64->Option (List Int)
 | 0,_=>none
 | f+1,s=>bif decide (s=0#64) then some [] else (znR f (s&&&(s-1#64))).map fun l=>(((Go.Lib.ctz 64 s.toNat:Nat):Int)+1)::l
theorem zzd:∀t:Fin 64,znR 66 (BitVec.ofNat 64 t.1)=some (((List.range 6).filter fun i=>(BitVec.ofNat 64 t.1).getLsbD i).map fun i:Nat=>(i:Int)+1):=by decide +kernel
def Wm (s:BitVec 64):List Int:=((List.range 6).filter fun i=>s.getLsbD i).map fun i:Nat=>(i:Int)+1
theorem zyP {s:BitVec 64}(h:s&&& ~~~63#64=0#64):∃t:Fin 64,s=BitVec.ofNat 64 t.1:=by
 have h2:s=s&&&63#64:=by
  apply zIc
  intro i hi
  have:=congrArg (fun x=>x.getLsbD i) h
  simp only [zHV,zIo,hi,decide_true,zHJ,zId] at this ⊢
  cases h1:s.getLsbD i<;>cases h3:(63#64:BitVec 64).getLsbD i<;>simp_all
 have h3:s.toNat<64:=by
  rw [h2,zHW]
  exact zIp Nat.and_le_right (by decide)
 exact ⟨⟨s.toNat,h3⟩,by simp⟩
theorem zGc:∀t:Fin 64,Go.Lib.ctz 64 t.1<=64:=by decide +kernel
theorem zvZ:∀(f:Nat) (s:BitVec 64),s.toNat<64->VV f s=znR f s
 | 0,_,_=>rfl
 | f+1,s,h=>by
  simp only [VV,znR]
  rw [zvZ f _ (by rw [zHW];exact zIp Nat.and_le_left h)]
  have:Go.Lib.ctz 64 s.toNat<=64:=zGc ⟨s.toNat,h⟩
  have e:w64 (tz s+1)=((Go.Lib.ctz 64 s.toNat:Nat):Int)+1:=by
   unfold tz
   exact zV (by omega) (by omega)
  rw [e]
theorem zn2:∀(l acc:List Int),(acc.length+l.length)<4294967296->Zb zhx l (acc,())=some (acc++l,())
 | [],acc,_=>by simp [Zb]
 | a::l,acc,h=>by
  simp only [zG6] at h
  rw [Zb,zsD,yq (by simp;omega),zGL,zGL,zn2 l _ (by simp;omega)]
  simp
theorem zBL (s:BitVec 64):(Wm s).length<=6:=by
 unfold Wm
 rw [zHK]
 exact zHP (zH5 _ _) (by simp)
theorem zC1 {s:BitVec 64}(h:s&&& ~~~63#64=0#64):zeo s=some (Wm s,()):=by
 obtain ⟨t,rfl⟩:=zyP h
 have e:zj2 (BitVec.ofNat 64 t.1)=some (Wm (BitVec.ofNat 64 t.1)):=by
  show VV 66 _=_
  rw [zvZ 66 _ (by simp;omega),zzd t];rfl
 have:=zBL (BitVec.ofNat 64 t.1)
 rw [zoR,zoU,zGL,e,zGL,zn2 _ _ (by simp;omega)]
 rfl
theorem ztk (n:Nat) (hn:1<=n):∀(f:Nat) (l:List Int),(vr n f l).length<=l.length
 | 0,l=>by simp [vr]
 | f+1,[]=>by simp [vr]
 | f+1,x::l=>by
  have:=ztk n hn f ((x::l).drop n)
  simp only [vr,zG6,zH1] at this ⊢
  omega
theorem zma (n:Nat):∀(f:Nat) (l c:List Int),c∈vr n f l->c.length<=l.length
 | 0,l,c,h=>by simp [vr] at h
 | f+1,[],c,h=>by simp [vr] at h
 | f+1,x::l,c,h=>by
  simp only [vr,zG7] at h
  rcases h with rfl | h
  ·rw [zHT];exact Nat.min_le_right _ _
  ·have:=zma n f _ c h
   simp only [zH1] at this
   omega
def uw (p:zb) (w:Nat):zh:=⟨0,0,0,(w:Int)+1,0,[],⟨2,0,zI p ((w:Int)+1),p.Cap,0#64,0#64,0,0⟩,⟨0,0,0,0,0#64,0,0,0⟩,⟨0,0,0,0,⟨0,0,0,0,0#64,0#64,0,0⟩,⟨0,0,0,0,0#64,0,0,0⟩,0,0⟩⟩
def Yw (p:zb) (k:Nat):List (BitVec 64):=(List.range k).flatMap fun _=>zgB p.Cap
theorem zte (c:Int):(zgB c).length=c.toNat+2:=by unfold zgB;rw [zGZ,zHC];exact Nat.add_comm _ _
theorem zmE (p:zb) (k:Nat):Yw p (k+1)=Yw p k++zgB p.Cap:=by unfold Yw;rw [zH0,zH7];simp
theorem UB (p:zb):∀k,(Yw p k).length=k*(p.Cap.toNat+2)
 | 0=>by simp [Yw]
 | k+1=>by rw [zmE,zGZ,UB p k,zte,Nat.succ_mul]
theorem zFh {p:zb}{s1:BitVec 64}{s5:Int}{s6:Int}{s7:Int}{s8:Int}{s9:Int}{s10:Int}{s11:Int}{s12:Int}{s13:Int}{s14:BitVec 64}{s15:Int}{s16:zq}{s17:Int}{s18:Int}{s19:Bool}{s20:Bool}{s21:Int}{s22:Int}{s23:Int}{s24:Int}{s25:zw}{s26:zb}{s27:Int}{s28:zq}{s29:Int}{s30:Int}{s31:Bool}{s32:Bool}{s33:Int}{s34:zk}{s35:zw}{s36:List (List Int)}{s37:List (List Int)}{s38:List (List zm)}{s39:List zg}{s40:List (List Int)}{s41:List (BitVec 64)}{s42:List (List Int)}{s43:List Int}{s44:List Int}{s45:List zh}{s46:List zc}{s47:List (List Int)}{s49:List (List Int)}{s50:List Int}{s52:List zc}(hp:zB p) :
  zP zbb (s1,p.Workers,0,p,s5,s6,s7,s8,s9,s10,s11,s12,s13,s14,s15,s16,s17,s18,s19,s20,s21,s22,s23,s24,s25,s26,s27,s28,s29,s30,s31,s32,s33,s34,s35,s36,s37,s38,s39,s40,s41,s42,s43,s44,s45,s46,s47,[],s49,s50,[],s52,())=some (.brk (s1,p,s5,s6,s7,s8,s9,s10,s11,s12,s13,s14,s15,s16,s17,s18,s19,s20,s21,s22,s23,s24,s25,s26,s27,s28,s29,s30,s31,s32,s33,s34,s35,s36,s37,s38,s39,s40,s41,s42,s43,s44,s45,s46,s47,(Yw p p.Workers.toNat),s49,s50,((List.range p.Workers.toNat).map (uw p)),s52,())):=by
 have hw:=hp.wk
 have hc:=hp.cap
 refine (xV (f:=zbb) (fun a=>∃i:Nat,a=(s1,p.Workers,(i:Int),p,s5,s6,s7,s8,s9,s10,s11,s12,s13,s14,s15,s16,s17,s18,s19,s20,s21,s22,s23,s24,s25,s26,s27,s28,s29,s30,s31,s32,s33,s34,s35,s36,s37,s38,s39,s40,s41,s42,s43,s44,s45,s46,s47,(Yw p i),s49,s50,((List.range i).map (uw p)),s52,())/\(i:Int)<=p.Workers) (fun a=>(p.Workers-a.2.2.1).toNat) (fun o=>o= .brk (s1,p,s5,s6,s7,s8,s9,s10,s11,s12,s13,s14,s15,s16,s17,s18,s19,s20,s21,s22,s23,s24,s25,s26,s27,s28,s29,s30,s31,s32,s33,s34,s35,s36,s37,s38,s39,s40,s41,s42,s43,s44,s45,s46,s47,(Yw p p.Workers.toNat),s49,s50,((List.range p.Workers.toNat).map (uw p)),s52,())) ?_ (s1,p.Workers,0,p,s5,s6,s7,s8,s9,s10,s11,s12,s13,s14,s15,s16,s17,s18,s19,s20,s21,s22,s23,s24,s25,s26,s27,s28,s29,s30,s31,s32,s33,s34,s35,s36,s37,s38,s39,s40,s41,s42,s43,s44,s45,s46,s47,[],s49,s50,[],s52,()) ⟨0,rfl,by omega⟩ (ve (by dsimp only;omega))).elim fun o h=>?_
 rotate_left
 ·rw [h.1,h.2]
 ·rintro _ ⟨i,rfl,hi⟩
  rw [zqS,zj]
  by_cases hlt:(i:Int)<p.Workers
  ·have hl:=UB p i
   have hl2:=zte p.Cap
   have hb:i*(p.Cap.toNat+2)<=3*5:=zH8 (by omega) (by omega)
   rw [if_pos hlt,zza hc.1 (by omega),zGL,yq (l:=Yw p i++zgB p.Cap) (by rw [zGZ];omega),zGL,U0,zGL,Uq,zGL,yq (by simp<;>omega),zGL,yz (by omega)]
   refine ⟨_,rfl,⟨i+1,?_,by omega⟩,?_⟩
   ·rw [zmE,zH0,List.map_append];rfl
   ·show (p.Workers-((i+1:Nat):Int)).toNat<(p.Workers-(i:Int)).toNat
    omega
  ·rw [if_neg hlt]
   have:i=p.Workers.toNat:=by omega
   subst this
   exact ⟨_,rfl,rfl⟩
def xq (k:Nat):List Int:=(List.range k).map fun i:Nat=>(i:Int)+1
theorem zx2 (k:Nat):(xq k).length=k:=by simp [xq]
theorem zED {b:Int}{s1:BitVec 64}{s4:zb}{s5:Int}{s6:Int}{s7:Int}{s8:Int}{s9:Int}{s10:Int}{s11:Int}{s12:Int}{s13:Int}{s14:BitVec 64}{s15:Int}{s16:zq}{s17:Int}{s18:Int}{s19:Bool}{s20:Bool}{s21:Int}{s22:Int}{s23:Int}{s24:Int}{s25:zw}{s26:zb}{s27:Int}{s28:zq}{s29:Int}{s30:Int}{s31:Bool}{s32:Bool}{s33:Int}{s34:zk}{s35:zw}{s37:List (List Int)}{s38:List (List Int)}{s39:List (List zm)}{s40:List zg}{s41:List (List Int)}{s42:List (BitVec 64)}{s43:List (List Int)}{s44:List Int}{s45:List Int}{s46:List zh}{s47:List zc}{s48:List (List Int)}{s49:List (BitVec 64)}{s50:List (List Int)}{s51:List Int}{s52:List zh}{s53:List zc}(hb:0<=b/\b<1000) :
  zP zaw (s1,b,0,s4,s5,s6,s7,s8,s9,s10,s11,s12,s13,s14,s15,s16,s17,s18,s19,s20,s21,s22,s23,s24,s25,s26,s27,s28,s29,s30,s31,s32,s33,s34,s35,[],s37,s38,s39,s40,s41,s42,s43,s44,s45,s46,s47,s48,s49,s50,s51,s52,s53,())=some (.brk (s1,s4,s5,s6,s7,s8,s9,s10,s11,s12,s13,s14,s15,s16,s17,s18,s19,s20,s21,s22,s23,s24,s25,s26,s27,s28,s29,s30,s31,s32,s33,s34,s35,(xq b.toNat),s37,s38,s39,s40,s41,s42,s43,s44,s45,s46,s47,s48,s49,s50,s51,s52,s53,())):=by
 refine (xV (f:=zaw) (fun a=>∃i:Nat,a=(s1,b,(i:Int),s4,s5,s6,s7,s8,s9,s10,s11,s12,s13,s14,s15,s16,s17,s18,s19,s20,s21,s22,s23,s24,s25,s26,s27,s28,s29,s30,s31,s32,s33,s34,s35,(xq i),s37,s38,s39,s40,s41,s42,s43,s44,s45,s46,s47,s48,s49,s50,s51,s52,s53,())/\(i:Int)<=b) (fun a=>(b-a.2.2.1).toNat) (fun o=>o= .brk (s1,s4,s5,s6,s7,s8,s9,s10,s11,s12,s13,s14,s15,s16,s17,s18,s19,s20,s21,s22,s23,s24,s25,s26,s27,s28,s29,s30,s31,s32,s33,s34,s35,(xq b.toNat),s37,s38,s39,s40,s41,s42,s43,s44,s45,s46,s47,s48,s49,s50,s51,s52,s53,())) ?_ (s1,b,0,s4,s5,s6,s7,s8,s9,s10,s11,s12,s13,s14,s15,s16,s17,s18,s19,s20,s21,s22,s23,s24,s25,s26,s27,s28,s29,s30,s31,s32,s33,s34,s35,[],s37,s38,s39,s40,s41,s42,s43,s44,s45,s46,s47,s48,s49,s50,s51,s52,s53,()) ⟨0,rfl,by omega⟩ (ve (by dsimp only;omega))).elim fun o h=>?_
 rotate_left
 ·rw [h.1,h.2]
 ·rintro _ ⟨i,rfl,hi⟩
  rw [zp8,zj]
  by_cases hlt:(i:Int)<b
  ·have:=zx2 i
   rw [if_pos hlt,yq (by rw [zGZ];simp;omega),zGL,yz (by omega)]
   refine ⟨_,rfl,⟨i+1,?_,by omega⟩,?_⟩
   ·unfold xq;rw [zH0,List.map_append];rfl
   ·show (b-((i+1:Nat):Int)).toNat<(b-(i:Int)).toNat
    omega
  ·rw [if_neg hlt]
   have:i=b.toNat:=by omega
   subst this
   exact ⟨_,rfl,rfl⟩
theorem zz6 {s1:zb}{s2:Int}{s3:Int}{s4:Int}{s5:Int}{s6:Int}{s7:Int}{s8:Int}{s9:Int}{s10:Int}{s11:BitVec 64}{s12:Int}{s13:zq}{s14:Int}{s15:Int}{s16:Bool}{s17:Bool}{s18:Int}{s19:Int}{s20:Int}{s21:Int}{s22:zw}{s23:zb}{s24:Int}{s25:zq}{s26:Int}{s27:Int}{s28:Bool}{s29:Bool}{s30:Int}{s31:zk}{s32:zw}{s33:List Int}{s34:List (List Int)}{s35:List (List Int)}{s36:List (List zm)}{s37:List zg}{s38:List (List Int)}{s39:List (BitVec 64)}{s40:List (List Int)}{s41:List Int}{s42:List Int}{s43:List zh}{s44:List zc}{s45:List (List Int)}{s46:List (BitVec 64)}{s48:List Int}{s49:List zh}{s50:List zc}:∀(ys acc:List (List Int)),acc.length+ys.length<1000000->(∀c∈ys,c.length<1000000)->Zb zev ys (s1,s2,s3,s4,s5,s6,s7,s8,s9,s10,s11,s12,s13,s14,s15,s16,s17,s18,s19,s20,s21,s22,s23,s24,s25,s26,s27,s28,s29,s30,s31,s32,s33,s34,s35,s36,s37,s38,s39,s40,s41,s42,s43,s44,s45,s46,acc,s48,s49,s50,())=some (s1,s2,s3,s4,s5,s6,s7,s8,s9,s10,s11,s12,s13,s14,s15,s16,s17,s18,s19,s20,s21,s22,s23,s24,s25,s26,s27,s28,s29,s30,s31,s32,s33,s34,s35,s36,s37,s38,s39,s40,s41,s42,s43,s44,s45,s46,(acc++ys),s48,s49,s50,())
 | [],acc,_,_=>by simp [Zb]
 | y::ys,acc,h,hc=>by
  simp only [zG6] at h
  have hy:=hc y (zG4 ..)
  rw [Zb,zqm,XH (by omega),zGL,yq (by simp<;>omega),zGL,zGL,zz6 ys _ (by simp<;>omega) (fun c h'=>hc c (zGU _ h'))]
  simp
def vh (r:List Int):zc:=⟨0,0,0,0,0,0,0,0,r,[],[],⟨0,0,0,0,0#64,0,0,0⟩,⟨0,0,0,0,⟨0,0,0,0,0#64,0#64,0,0⟩,⟨0,0,0,0,0#64,0,0,0⟩,0,0⟩⟩
theorem zEc {p:zb}{s4:Int}{s5:Int}{s6:Int}{s7:Int}{s8:Int}{s9:Int}{s10:Int}{s11:Int}{s12:Int}{s13:BitVec 64}{s14:Int}{s15:zq}{s16:Int}{s17:Int}{s18:Bool}{s19:Bool}{s20:Int}{s21:Int}{s22:Int}{s23:Int}{s24:zw}{s25:zb}{s26:Int}{s27:List (BitVec 64)}{s28:zq}{s29:Int}{s30:Int}{s31:Bool}{s32:Bool}{s33:Int}{s34:zk}{s35:zw}{s36:List (List Int)}{s37:List (List Int)}{s38:List (List zm)}{s39:List zg}{s40:List (List Int)}{s41:List (BitVec 64)}{s42:List (List Int)}{s43:List Int}{s44:List Int}{s45:List zh}{s46:List zc}{s47:List (List Int)}{s48:List (List Int)}{s49:List Int}{s50:List zh}(hl:p.Regs.length<1000000) (hr:∀r∈p.Regs,r.length<1000000) :
  zP zau (p.Regs,(p.Regs.length:Int),0,s4,s5,s6,s7,s8,s9,s10,s11,s12,s13,s14,s15,s16,s17,s18,s19,s20,s21,s22,s23,s24,s25,s26,s27,s28,s29,s30,s31,s32,s33,s34,s35,s36,s37,s38,s39,s40,s41,s42,s43,s44,s45,s46,s47,s48,s49,s50,[],())=some (.brk (s4,s5,s6,s7,s8,s9,s10,s11,s12,s13,s14,s15,s16,s17,s18,s19,s20,s21,s22,s23,s24,s25,s26,s27,s28,s29,s30,s31,s32,s33,s34,s35,s36,s37,s38,s39,s40,s41,s42,s43,s44,s45,s46,s47,s48,s49,s50,(p.Regs.map vh),())):=by
 refine (xV (f:=zau) (fun a=>∃i:Nat,a=(p.Regs,(p.Regs.length:Int),(i:Int),s4,s5,s6,s7,s8,s9,s10,s11,s12,s13,s14,s15,s16,s17,s18,s19,s20,s21,s22,s23,s24,s25,s26,s27,s28,s29,s30,s31,s32,s33,s34,s35,s36,s37,s38,s39,s40,s41,s42,s43,s44,s45,s46,s47,s48,s49,s50,((p.Regs.take i).map vh),())/\i<=p.Regs.length) (fun a=>p.Regs.length-a.2.2.1.toNat) (fun o=>o= .brk (s4,s5,s6,s7,s8,s9,s10,s11,s12,s13,s14,s15,s16,s17,s18,s19,s20,s21,s22,s23,s24,s25,s26,s27,s28,s29,s30,s31,s32,s33,s34,s35,s36,s37,s38,s39,s40,s41,s42,s43,s44,s45,s46,s47,s48,s49,s50,(p.Regs.map vh),())) ?_ (p.Regs,(p.Regs.length:Int),0,s4,s5,s6,s7,s8,s9,s10,s11,s12,s13,s14,s15,s16,s17,s18,s19,s20,s21,s22,s23,s24,s25,s26,s27,s28,s29,s30,s31,s32,s33,s34,s35,s36,s37,s38,s39,s40,s41,s42,s43,s44,s45,s46,s47,s48,s49,s50,[],()) ⟨0,rfl,by omega⟩ (ve (by dsimp only;omega))).elim fun o h=>?_
 rotate_left
 ·rw [h.1,h.2]
 ·rintro _ ⟨i,rfl,hi⟩
  rw [zpC,zj]
  rcases zHk i p.Regs.length with hlt | hge
  ·have hx:=zGN hlt
   have hh:=hr _ (zHi hlt)
   rw [if_pos (by omega),xu hx,zGL,XH (by omega),zGL,yq (by simp<;>omega),zGL,yz (by omega)]
   refine ⟨_,rfl,⟨i+1,?_,hlt⟩,?_⟩
   ·rw [zH4,hx,List.map_append];rfl
   ·show p.Regs.length-((i+1:Nat):Int).toNat<p.Regs.length-(i:Int).toNat
    omega
  ·rw [if_neg (by omega)]
   have:i=p.Regs.length:=by omega
   subst this
   exact ⟨_,rfl,by rw [zIm]⟩
def zR (p:zb):Nat:=(p.Most+p.Workers+p.Mutators).toNat
def yW (p:zb):List (List Int):=vr p.Bin.toNat (Wm (Zk p)).length (Wm (Zk p))
def yv (p:zb):za :=
 {P:=p,H:=p.H,
  M:=zcA (zcA (Yw p p.Workers.toNat++List.replicate (2+zR p) 0#64) (zZ p) (zD p) ((xq (zR p)).take (yW p).length)) (zD p) (zD p) ((xq (zR p)).drop (yW p).length),
  Bins:=[[]]++yW p++List.replicate (zR p-(yW p).length) [],
  T:=⟨Zk p,0#64⟩,Work:=cnt (Zk p),Epoch:=0,Flag:=false,Done:=false,Restarts:=0,
  Acks:=List.replicate p.Mutators.toNat 0,L:=⟨0,0,0,List.replicate p.Mutators.toNat 0⟩,
  Ws:=(List.range p.Workers.toNat).map (uw p),Ms:=p.Regs.map vh,D:=⟨0,0⟩}
theorem zCK {r n:Int}(h:0<=r) (h2:r<=n) (h3:n<=6):bit r&&& ~~~wG n=0#64:=by
 have:=zvU ⟨r.toNat,by omega⟩ ⟨n.toNat,by omega⟩ (by show r.toNat<=n.toNat;omega)
 simpa [Int.toNat_of_nonneg h,Int.toNat_of_nonneg (show 0<=n by omega)] using this
theorem zyU {a b c:BitVec 64}(ha:a&&& ~~~c=0#64) (hb:b&&& ~~~c=0#64):(a|||b)&&& ~~~c=0#64:=by
 apply zIc
 intro i hi
 have h1:=congrArg (fun x=>x.getLsbD i) ha
 have h2:=congrArg (fun x=>x.getLsbD i) hb
 simp only [zHV,BitVec.getLsbD_or,zIo,zId,hi,decide_true,zHJ] at h1 h2 ⊢
 revert h1 h2
 generalize a.getLsbD i=x
 generalize b.getLsbD i=y
 generalize c.getLsbD i=z
 cases x<;>cases y<;>cases z<;>decide
theorem zAJ {c:BitVec 64}{l:List Int}(h:∀o∈l,bit o&&& ~~~c=0#64):∀(z:BitVec 64),z&&& ~~~c=0#64->l.foldl (fun s o=>s|||bit o) z&&& ~~~c=0#64:=by
 induction l with
 | nil=>intro z hz;exact hz
 | cons a l ih=>intro z hz;exact ih (fun o ho=>h o (zGU _ ho)) _ (zyU hz (h a (zG4 ..)))
theorem zmk {p:zb}(h:zB p):Zk p&&& ~~~wG (p.H.Objs.length:Int)=0#64:=by
 have hn:=h.n
 have key:∀(L:List (List Int)) (z:BitVec 64),(∀r∈L,∀v∈r,0<=v/\v<=(p.H.Objs.length:Int))->z&&& ~~~wG (p.H.Objs.length:Int)=0#64->L.foldl (fun s l=>s|||zgl l) z&&& ~~~wG (p.H.Objs.length:Int)=0#64:=by
  intro L
  induction L with
  | nil=>intro z _ hz;exact hz
  | cons r L ih =>
   intro z hr hz
   refine ih _ (fun r' h'=>hr r' (zGU _ h')) (zyU hz (zAJ (fun o ho=>?_) _ (by simp)))
   have:=hr r (zG4 ..) o ho
   exact zCK this.1 this.2 hn.2
 exact key _ _ (fun r hr=>(h.reg r hr).2) (zrt h)
theorem zzx {a b c:BitVec 64}(h:a&&& ~~~b=0#64) (h2:b&&& ~~~c=0#64):a&&& ~~~c=0#64:=by
 apply zIc
 intro i hi
 have h1:=congrArg (fun x=>x.getLsbD i) h
 have h2:=congrArg (fun x=>x.getLsbD i) h2
 simp only [zHV,zIo,zId,hi,decide_true,zHJ] at h1 h2 ⊢
 revert h1 h2
 generalize a.getLsbD i=x
 generalize b.getLsbD i=y
 generalize c.getLsbD i=z
 cases x<;>cases y<;>cases z<;>decide
theorem zzy:∀n:Fin 7,wG (n.1:Int)&&& ~~~63#64=0#64:=by decide
theorem zfY {p:zb}(h:zB p):Zk p&&& ~~~63#64=0#64:=by
 have hn:=h.n
 refine zzx (zmk h) ?_
 exact zzy ⟨p.H.Objs.length,by omega⟩
theorem zAx:∀(n:Fin 7) (t:Fin 64),BitVec.ofNat 64 t.1&&& ~~~wG (n.1:Int)=0#64->(Wm (BitVec.ofNat 64 t.1)).length<=n.1:=by decide +kernel
theorem zlr {p:zb}(h:zB p):(Wm (Zk p)).length<=p.H.Objs.length:=by
 have hn:=h.n
 obtain ⟨t,ht⟩:=zyP (zfY h)
 have h2:=zmk h
 rw [ht] at h2 ⊢
 exact zAx ⟨p.H.Objs.length,by omega⟩ t h2
theorem zoB {p:zb}(h:zB p):(yW p).length<=p.H.Objs.length:=by
 have hb:=h.bin
 exact zHP (ztk _ (by omega) _ _) (zlr h)
theorem zwp {p:zb}(h:zB p):zgc p=some (yv p,()):=by
 have hw:=h.wk
 have hc:=h.cap
 have hm:=h.mt
 have hb:=h.bin
 have hn:=h.n
 have hmo:=h.most
 have hrl:=h.regs
 have hreg:∀r∈p.Regs,r.length<1000000:=fun r hr=>by have:=(h.reg r hr).1;omega
 have hobj:∀o∈p.H.Objs,o.length<1000000:=fun o ho=>by have:=(h.objs o ho).1;have:=h.slots;omega
 have hfl:=zoB h
 have hgl:=zlr h
 have hcl:=UB p p.Workers.toNat
 have hcb:p.Workers.toNat*(p.Cap.toNat+2)<=3*5:=zH8 (by omega) (by omega)
 have hbn:(zR p:Int)=p.Most+p.Workers+p.Mutators:=by unfold zR;omega
 have eb:zf7 p=some ((zR p:Int),()):=by
  rw [zvd,zV (a:=p.Most+p.Workers) (by omega) (by omega),zV (by omega) (by omega),hbn]
 have hul:=zx2 (zR p)
 have ec:UQ (Wm (Zk p)) p.Bin=some (yW p):=by
  show zka _ _=_
  unfold zka yW
  have c1:(decide (1<=p.Bin)&&decide (p.Bin<1000000)&&decide (((Wm (Zk p)).length:Int)<1000000))=true:=by simp<;>omega
  rw [c1];rfl
 have cut1:cut (xq (zR p)) 0 ((yW p).length:Int)=some ((xq (zR p)).take (yW p).length):=by
  unfold cut
  have:((yW p).length:Int)<=((xq (zR p)).length:Int):=by omega
  simp [this]
 have cut2:cut (xq (zR p)) ((yW p).length:Int) ((xq (zR p)).length:Int)=some ((xq (zR p)).drop (yW p).length):=by
  unfold cut
  have:((yW p).length:Int)<=((xq (zR p)).length:Int):=by omega
  simp [this]
 rw [zuD,zA7 h]
 simp only [zGL,zG1,cond_false]
 rw [zAZ (by omega) hreg]
 simp only [zGL,zCL,zAz hm.1 (show p.Mutators<=16 by omega)]
 rw [zBK (by omega) hobj]
 simp only [zGL]
 rw [zFh h]
 simp only [zGL,eb]
 have e3:(2+(zR p:Int)).toNat=2+zR p:=by omega
 rw [zV (a:=2+(zR p:Int)) (by omega) (by omega),zvL (by omega) (by omega),e3,zGL,yq (l:=Yw p p.Workers.toNat++List.replicate (2+zR p) 0#64) (by simp<;>omega),zGL,zED (by omega)]
 dsimp only [zGL]
 rw [zHs,zC1 (zfY h),zGL,zhU,zj,if_neg (by omega),zGL,ec,zGL,zz6 _ _ (by simp<;>omega) (fun c hc'=>by have:=zma _ _ _ _ hc';omega)]
 dsimp only [zGL]
 have e1:w64 ((([[]]++yW p:List (List Int)).length:Int)-1)=((yW p).length:Int):=by
  rw [zV (by simp<;>omega) (by simp<;>omega)];simp
 have e2:w64 (((xq (zR p)).length:Int)-((yW p).length:Int))=((zR p-(yW p).length:Nat):Int):=by
  rw [zV (by omega) (by omega)];omega
 rw [e1,e2,zvL (by omega) (by omega),zHs,zGL,yq (by simp<;>omega),zGL,zbe,zGL,Uu,zGL,cut1,zGL,zv1 (by simp<;>omega) (by simp<;>omega),zGL,zbN,zGL,zGL,cut2,zGL,zv1 (by rw [zsc];simp<;>omega) (by simp<;>omega),zGL,decide_true,cond_true,zkC hm.1 (show p.Mutators<4294967296 by omega),zGL,zEc (by omega) hreg]
 rfl
end
end Go.Pe.G
namespace Go.Pe.G
open Go.Pe
noncomputable section
theorem zlI (h:BitVec 64):yg h=((h.toNat%4294967296:Nat):Int):=by
 unfold yg
 have e:(h&&&4294967295#64).toNat=h.toNat%4294967296:=by
  rw [zHW]
  exact zIA h.toNat 32
 rw [zIt,e]
 omega
theorem zlf (h:BitVec 64):0<=yg h/\yg h<4294967296:=by rw [zlI];omega
theorem zc9 (v:BitVec 64) {n:Int}(h:0<=n) (h2:n<4294967296):yg (xd v n)=n:=by
 rw [zlI]
 unfold xd
 rw [BitVec.toNat_or,zHW,BitVec.toNat_shiftLeft]
 have e1:(v.toNat <<< 32%2 ^ 64|||(BitVec.ofInt 64 n).toNat&&&(4294967295#64).toNat)%2 ^ 32=(v.toNat <<< 32%2 ^ 64)%2 ^ 32|||((BitVec.ofInt 64 n).toNat&&&(4294967295#64).toNat)%2 ^ 32:=Nat.or_mod_two_pow
 have e2:v.toNat <<< 32%2 ^ 64%2 ^ 32=0:=by rw [Nat.shiftLeft_eq];omega
 have e3:(BitVec.ofInt 64 n).toNat&&&(4294967295#64).toNat=n.toNat:=by
  have:(BitVec.ofInt 64 n).toNat=n.toNat:=by rw [zHE];omega
  rw [this]
  exact (zIA n.toNat 32).trans (Nat.mod_eq_of_lt (by omega))
 rw [show (4294967296:Nat)=2 ^ 32 from rfl,e1,e2,e3,Nat.zero_or,Nat.mod_eq_of_lt (by omega)]
 omega
theorem toInt_ofInt {n:Int}(h:0<=n) (h2:n<4294967296):(BitVec.ofInt 64 n).toInt=n:=by
 have e:(BitVec.ofInt 64 n).toNat=n.toNat:=by rw [zHE];omega
 rw [zIt,e]
 omega
theorem Wl {m:List (BitVec 64)}{a b:Int}{v:BitVec 64}:ld (st m a v) b=if a=b/\0<=a/\a<m.length then v else ld m b:=by
 unfold ld st
 by_cases hb:0<=b
 ·rw [if_pos hb,if_pos hb]
  by_cases ha:0<=a
  ·rw [if_pos ha,zGP,zGP,zHx]
   by_cases hab:a.toNat=b.toNat
   ·have e:a=b:=by omega
    subst e
    by_cases hl:a.toNat<m.length
    ·rw [if_pos rfl,if_pos hl,if_pos ⟨rfl,ha,by omega⟩];rfl
    ·rw [if_pos rfl,if_neg hl,if_neg (by omega),zHQ (by omega)]
   ·rw [if_neg hab,if_neg (by omega)]
  ·rw [if_neg ha,if_neg (by omega)]
 ·rw [if_neg hb,if_neg hb,if_neg (by omega)]
theorem yp {m:List (BitVec 64)}{a b:Int}{v:BitVec 64}(h:a≠b):ld (st m a v) b=ld m b:=by
 rw [Wl,if_neg (fun h'=>h h'.1)]
theorem Zx {p:zb}(h:zB p):zZ p=p.Workers*(p.Cap+2)/\3<=zZ p/\zZ p<=15:=by
 have hw:=h.wk
 have hc:=h.cap
 unfold zZ
 rw [xr (a:=p.Cap+2) (by omega) (by omega)]
 have hx:p.Workers=1\/p.Workers=2\/p.Workers=3:=by omega
 rcases hx with hx | hx | hx<;>rw [hx,xr (by omega) (by omega)]<;>omega
theorem wo {p:zb}(h:zB p):zD p=zZ p+1:=by
 have:=Zx h
 unfold zD
 rw [xr (by omega) (by omega)]
theorem Yl {p:zb}(h:zB p) {w:Int}(h1:1<=w) (h2:w<=p.Workers):zI p w=(w-1)*(p.Cap+2)/\0<=zI p w/\zI p w+p.Cap+2<=zZ p:=by
 have hw:=h.wk
 have hc:=h.cap
 have hf:=(Zx h).1
 unfold zI
 rw [xr (a:=p.Cap+2) (by omega) (by omega),xr (a:=w-1) (by omega) (by omega)]
 have hx:p.Workers=1\/p.Workers=2\/p.Workers=3:=by omega
 have hy:w=1\/w=2\/w=3:=by omega
 rw [hf]
 rcases hx with hx | hx | hx<;>rcases hy with hy | hy | hy<;>first | omega | (rw [hx,hy,xr (by omega) (by omega)]<;>omega)
theorem zrR {p:zb}(h:zB p) {d:zd}{w:Int}(h1:1<=w) (h2:w<=p.Workers) (hb:d.Base=zI p w) (hc:d.Cap=p.Cap) (i:BitVec 64) :
  YN d i=d.Base+2+((i.toNat%p.Cap.toNat:Nat):Int)/\d.Base+2<=YN d i/\YN d i<d.Base+2+p.Cap:=by
 have hcp:=h.cap
 have hd:=Yl h h1 h2
 have hf:=Zx h
 have hs:(uc d).toNat=p.Cap.toNat:=by
  unfold uc
  rw [hc,if_neg (by omega),zHE]
  omega
 have hlt:i.toNat%p.Cap.toNat<p.Cap.toNat:=Nat.mod_lt _ (by omega)
 have hm:(i%uc d).toInt=((i.toNat%p.Cap.toNat:Nat):Int):=by
  rw [zIt,BitVec.toNat_umod,hs]
  omega
 unfold YN
 rw [hm,xr (a:=d.Base+2) (by omega) (by omega),xr (by omega) (by omega)]
 omega
structure SOk (p:zb) (nb:Nat) (s:za):Prop where
 P:s.P=p
 bins:s.Bins.length=nb
 nbk:1<=nb/\nb<1000
 mem:s.M.length<100000
 cF:yg (ld s.M (zZ p))<nb
 cE:yg (ld s.M (zD p))<nb
 cL:∀a,zD p<a->0<=(ld s.M a).toInt/\(ld s.M a).toInt<nb
structure MOk (p:zb) (nb:Nat) (g:zu):Prop where
 who:g.Mode=1->1<=g.Who/\g.Who<=p.Workers
 d3:g.PC=3->g.D.Kind=1/\g.D.Base=zI p g.Who/\g.D.Cap=p.Cap/\g.Mode=1
 c5:g.PC=5->g.C.Kind=2/\g.C.Head=zD p/\g.C.Next=zD p/\(1<=g.C.PC->1<=yg g.C.H/\yg g.C.H<nb)/\(2<=g.C.PC->0<=g.C.Y/\g.C.Y<nb)
 b6:g.PC=6->1<=g.Bin/\g.Bin<nb
 c7:g.PC=7->g.C.Kind=1/\g.C.Head=zZ p/\g.C.Next=zD p/\(1<=g.C.X/\g.C.X<nb)/\(1<=g.C.PC->yg g.C.H<nb)
theorem SOk.gok {p:zb}{nb:Nat}{s:za}{g:zu}(h:zB p) (S:SOk p nb s) (M:MOk p nb g):GOk s g:=by
 have hc:=h.cap
 refine ⟨by have:=S.mem;omega,by have:=S.bins;have:=S.nbk;omega,fun h6=>?_,fun h3=>?_⟩
 ·have:=M.b6 h6;have:=S.bins;omega
 ·obtain ⟨a,b,c,_⟩:=M.d3 h3;exact ⟨a,by omega⟩
theorem SOk.low {p:zb}{nb:Nat}{s:za}(h:zB p) (S:SOk p nb s) {a:Int}(ha:a<zZ p) (v:BitVec 64):SOk p nb {s with M:=st s.M a v}:=by
 have he:=wo h
 exact ⟨S.P,S.bins,S.nbk,by simp only [ZS];exact S.mem,by simp only [yp (show a≠zZ p by omega)];exact S.cF,by simp only [yp (show a≠zD p by omega)];exact S.cE,fun b hb=>by
  simp only [yp (show a≠b by omega)];exact S.cL b hb⟩
theorem SOk.link {p:zb}{nb:Nat}{s:za}(h:zB p) (S:SOk p nb s) {a:Int}(ha:zD p<a) {v:BitVec 64}(hv:0<=v.toInt/\v.toInt<nb):SOk p nb {s with M:=st s.M a v}:=by
 have he:=wo h
 exact ⟨S.P,S.bins,S.nbk,by simp only [ZS];exact S.mem,by simp only [yp (show a≠zZ p by omega)];exact S.cF,by simp only [yp (show a≠zD p by omega)];exact S.cE,fun b hb=>by
  simp only [Wl]
  split
  ·exact hv
  ·exact S.cL b hb⟩
theorem SOk.head {p:zb}{nb:Nat}{s:za}(h:zB p) (S:SOk p nb s) {a:Int}(ha:a=zZ p\/a=zD p) {v:BitVec 64}(hv:yg v<nb):SOk p nb {s with M:=st s.M a v}:=by
 have he:=wo h
 refine ⟨S.P,S.bins,S.nbk,by simp only [ZS];exact S.mem,?_,?_,fun b hb=>?_⟩
 ·simp only [Wl]
  split
  ·exact hv
  ·exact S.cF
 ·simp only [Wl]
  split
  ·exact hv
  ·exact S.cE
 ·simp only [yp (show a≠b by omega)];exact S.cL b hb
theorem SOk.swap {p:zb}{nb:Nat}{s:za}(h:zB p) (S:SOk p nb s) {a:Int}(ha:a=zZ p\/a=zD p) (x:BitVec 64) {v:BitVec 64}(hv:yg v<nb):SOk p nb {s with M:=(sw s.M a x v).1}:=by
 unfold sw
 split
 ·exact S.head h ha hv
 ·exact S
theorem zxL {p:zb}{nb:Nat}{s:za}(h:zB p) (S:SOk p nb s) {c:zE}{hd:Int}(hdd:hd=zZ p\/hd=zD p) (hk:c.Kind=2) (hh:c.Head=hd) (hn:c.Next=zD p)
  (h1:1<=c.PC->1<=yg c.H/\yg c.H<nb) (h2:2<=c.PC->0<=c.Y/\c.Y<nb) (ho:c.Out≠1) :
  SOk p nb {s with M:=(zn s.M c).1}/\(zn s.M c).2.Kind=2/\(zn s.M c).2.Head=hd/\(zn s.M c).2.Next=zD p /\
  ((zn s.M c).2.Out≠1->(zn s.M c).2.Out≠2->(1<=(zn s.M c).2.PC->1<=yg (zn s.M c).2.H/\yg (zn s.M c).2.H<nb)/\(2<=(zn s.M c).2.PC->0<=(zn s.M c).2.Y/\(zn s.M c).2.Y<nb)) /\
  ((zn s.M c).2.Out=1->1<=(zn s.M c).2.X/\(zn s.M c).2.X<nb):=by
 have hnb:=S.nbk
 have hE:=wo h
 have hF:=Zx h
 unfold zn
 split
 ·exact ⟨S,hk,hh,hn,fun _ _=>⟨h1,h2⟩,fun e=>absurd e ho⟩
 ·split
  ·rw [hh]
   have n1:=zlf (ld s.M hd)
   have n2:yg (ld s.M hd)<nb:=by
    rcases hdd with e | e<;>rw [e]
    ·exact S.cF
    ·exact S.cE
   split
   ·exact ⟨S,hk,rfl,hn,fun _ h=>absurd rfl h,fun e=>by cases e⟩
   ·rename_i hne
    refine ⟨S,hk,rfl,hn,fun _ _=>⟨fun _=>⟨?_,n2⟩,fun e=>absurd e (by dsimp only;omega)⟩,fun e=>absurd e ho⟩
    have:yg (ld s.M hd)≠0:=fun e=>hne ⟨hk,e⟩
    dsimp only
    omega
  ·split
   ·try rw [if_pos hk]
    have hpc:1<=c.PC:=by omega
    have n1:=h1 hpc
    refine ⟨S,hk,hh,hn,fun _ _=>⟨fun _=>n1,fun _=>?_⟩,fun e=>absurd e ho⟩
    dsimp only
    rw [hn,xr (by omega) (by omega)]
    exact S.cL _ (by omega)
   ·rename_i g1 g2 g3
    have hpc:c.PC=2:=by omega
    have n1:=h1 (by omega)
    have n2:=h2 (by omega)
    simp only [if_pos hk]
    refine ⟨S.swap h (by rw [hh];exact hdd) _ (by rw [zc9 _ n2.1 (by omega)];exact n2.2),?_⟩
    split
    ·exact ⟨hk,hh,hn,fun e=>absurd rfl e,fun _=>n1⟩
    ·exact ⟨hk,hh,hn,fun _ _=>⟨fun e=>absurd e (by dsimp only;omega),fun e=>absurd e (by dsimp only;omega)⟩,fun e=>absurd e ho⟩
theorem zuy {p:zb}{nb:Nat}{s:za}(h:zB p) (S:SOk p nb s) {c:zE}{hd:Int}(hdd:hd=zZ p\/hd=zD p) (hk:c.Kind=1) (hh:c.Head=hd) (hn:c.Next=zD p) (hx:1<=c.X/\c.X<nb)
  (h1:1<=c.PC->yg c.H<nb) :
  SOk p nb {s with M:=(zn s.M c).1}/\(zn s.M c).2.Kind=1/\(zn s.M c).2.Head=hd/\(zn s.M c).2.Next=zD p/\(1<=(zn s.M c).2.X/\(zn s.M c).2.X<nb) /\
  (1<=(zn s.M c).2.PC->yg (zn s.M c).2.H<nb):=by
 have hnb:=S.nbk
 have hE:=wo h
 have hF:=Zx h
 have hk2: ¬c.Kind=2:=by omega
 unfold zn
 split
 ·exact ⟨S,hk,hh,hn,hx,h1⟩
 ·split
  ·rw [if_neg (fun e=>hk2 e.1),hh]
   exact ⟨S,hk,rfl,hn,hx,fun _=>hdd.elim (fun e=>by dsimp only;rw [e];exact S.cF) (fun e=>by dsimp only;rw [e];exact S.cE)⟩
  ·split
   ·try rw [if_neg hk2]
    have hpc:1<=c.PC:=by omega
    have n1:=h1 hpc
    have n2:=zlf c.H
    refine ⟨?_,hk,hh,hn,hx,fun _=>n1⟩
    dsimp only
    rw [hn,xr (by omega) (by omega)]
    exact S.link h (by omega) (by rw [toInt_ofInt (by omega) (by omega)];omega)
   ·have n1:=h1 (by omega)
    simp only [if_neg hk2]
    refine ⟨S.swap h (by rw [hh];exact hdd) _ (by rw [zc9 _ (by omega) (by omega)];exact hx.2),?_⟩
    split
    ·exact ⟨hk,hh,hn,hx,fun _=>n1⟩
    ·exact ⟨hk,hh,hn,hx,fun _=>n1⟩
theorem MOk.ask {p:zb}{nb:Nat}{g:zu}(hw:g.Mode=1->1<=g.Who/\g.Who<=p.Workers):MOk p nb (zhS p g) :=
 ⟨hw,fun e=>(by cases e),fun _=>⟨rfl,rfl,rfl,fun e=>absurd e (show ¬(1:Int)<=0 by decide),fun e=>absurd e (show ¬(2:Int)<=0 by decide)⟩,fun e=>(by cases e),fun e=>(by cases e)⟩
theorem zqN {p:zb}{nb:Nat}{s:za}{g:zu}(h:zB p) (S:SOk p nb s) (M:MOk p nb g) (hout:g.PC=5->g.C.Out≠1):SOk p nb (zx s g).1/\MOk p nb (zx s g).2/\((zx s g).2.PC=5->(zx s g).2.C.Out≠1):=by
 have hP:=S.P
 unfold zx
 split
 ·exact ⟨S,M,hout⟩
 split
 ·rename_i h7
  obtain ⟨a1,a2,a3,a4,a5⟩:=M.c7 h7
  obtain ⟨b1,b2,b3,b4,b5,b6⟩:=zuy h S (.inl rfl) a1 a2 a3 a4 a5
  unfold zcK
  refine ⟨b1,?_,?_⟩
  ·dsimp only
   split<;>exact ⟨M.who,fun e=>(by dsimp only at e;omega),fun e=>(by dsimp only at e;omega),fun e=>(by dsimp only at e;omega),fun _=>⟨b2,b3,b4,b5,b6⟩⟩
  ·dsimp only
   split<;>exact fun e=>by dsimp only at e;omega
 split
 ·rename_i h6
  obtain ⟨a1,a2⟩:=M.b6 h6
  unfold zwZ
  refine ⟨⟨hP,by simp only [zHh];exact S.bins,S.nbk,S.mem,S.cF,S.cE,S.cL⟩,⟨M.who,fun e=>(by cases e),fun e=>(by cases e),fun e=>(by cases e),fun _=>⟨rfl,by rw [hP],by rw [hP],⟨a1,a2⟩,fun e=>absurd e (show ¬(1:Int)<=0 by decide)⟩⟩,fun e=>by cases e⟩
 split
 ·rename_i h5
  obtain ⟨a1,a2,a3,a4,a5⟩:=M.c5 h5
  obtain ⟨b1,b2,b3,b4,b5,b6⟩:=zxL h S (.inr rfl) a1 a2 a3 a4 a5 (hout h5)
  unfold zlD
  refine ⟨b1,?_,?_⟩
  ·dsimp only
   split
   ·rename_i e1
    exact ⟨M.who,fun e=>(by cases e),fun e=>(by cases e),fun _=>b6 e1,fun e=>(by cases e)⟩
   ·split
    ·rw [hP];exact MOk.ask M.who
    ·rename_i e1 e2
     exact ⟨M.who,fun e=>(by dsimp only at e;omega),fun _=>⟨b2,b3,b4,b5 e1 e2⟩,fun e=>(by dsimp only at e;omega),fun e=>(by dsimp only at e;omega)⟩
  ·dsimp only
   split
   ·exact fun e=>by cases e
   ·split
    ·exact fun _ e=>by cases e
    ·rename_i e1 e2;exact fun _=>e1
 split
 ·rw [hP]
  exact ⟨⟨rfl,S.bins,S.nbk,S.mem,S.cF,S.cE,S.cL⟩,MOk.ask M.who,fun _ e=>by cases e⟩
 split
 ·rename_i h3
  obtain ⟨a1,a2,a3,a4⟩:=M.d3 h3
  have hw:=M.who a4
  obtain ⟨d1,d2,d3⟩:=Yl h hw.1 hw.2
  have hc:=h.cap
  have hf:=Zx h
  have hs:SOk p nb {s with M:=(yE s.M g.D).1}:=by
   unfold yE
   split
   ·exact S
   split
   ·exact S
   split
   ·exact S
   split
   ·have:=zrR h hw.1 hw.2 a2 a3 g.D.B
    exact S.low h (by omega) _
   ·dsimp only
    rw [xr (by omega) (by omega)]
    exact S.low h (by omega) _
  have hd:(yE s.M g.D).2.Kind=1/\(yE s.M g.D).2.Base=zI p g.Who/\(yE s.M g.D).2.Cap=p.Cap:=by
   unfold yE
   split
   ·exact ⟨a1,a2,a3⟩
   split
   ·exact ⟨a1,a2,a3⟩
   split
   ·dsimp only
    split<;>exact ⟨a1,a2,a3⟩
   split<;>exact ⟨a1,a2,a3⟩
  unfold zll
  refine ⟨hs,?_,?_⟩
  ·dsimp only
   split
   ·exact ⟨M.who,fun _=>⟨hd.1,hd.2.1,hd.2.2,a4⟩,fun e=>(by dsimp only at e;omega),fun e=>(by dsimp only at e;omega),fun e=>(by dsimp only at e;omega)⟩
   ·split
    ·rw [hP];exact MOk.ask M.who
    ·exact ⟨M.who,fun _=>⟨hd.1,hd.2.1,hd.2.2,a4⟩,fun e=>(by dsimp only at e;omega),fun e=>(by dsimp only at e;omega),fun e=>(by dsimp only at e;omega)⟩
  ·dsimp only
   split
   ·exact fun e=>by dsimp only at e;omega
   ·split
    ·exact fun _ e=>by cases e
    ·exact fun e=>by dsimp only at e;omega
 split
 ·rename_i h2
  exact ⟨⟨hP,S.bins,S.nbk,S.mem,S.cF,S.cE,S.cL⟩,⟨M.who,fun e=>(by dsimp only at e;omega),fun e=>(by dsimp only at e;omega),fun e=>(by dsimp only at e;omega),fun e=>(by dsimp only at e;omega)⟩,fun e=>by dsimp only at e;omega⟩
 split
 ·unfold zlL
  refine ⟨⟨hP,S.bins,S.nbk,S.mem,S.cF,S.cE,S.cL⟩,?_,?_⟩
  ·dsimp only
   split
   ·exact ⟨M.who,fun e=>(by cases e),fun e=>(by cases e),fun e=>(by cases e),fun e=>(by cases e)⟩
   split
   ·exact ⟨M.who,fun _=>⟨rfl,by rw [hP],by rw [hP],by assumption⟩,fun e=>(by cases e),fun e=>(by cases e),fun e=>(by cases e)⟩
   split
   ·exact ⟨M.who,fun e=>(by cases e),fun e=>(by cases e),fun e=>(by cases e),fun e=>(by cases e)⟩
   ·rw [hP];exact MOk.ask M.who
  ·dsimp only
   split
   ·exact fun e=>by cases e
   split
   ·exact fun e=>by cases e
   split
   ·exact fun e=>by cases e
   ·exact fun _ e=>by cases e
 ·exact ⟨⟨hP,S.bins,S.nbk,S.mem,S.cF,S.cE,S.cL⟩,⟨M.who,fun e=>(by cases e),fun e=>(by cases e),fun e=>(by cases e),fun e=>(by cases e)⟩,fun e=>by cases e⟩
theorem Ux (s:za) (g:zu):(zx s g).2.Obj=g.Obj/\(zx s g).2.Who=g.Who/\(zx s g).2.Mode=g.Mode:=by
 unfold zx
 split
 ·exact ⟨rfl,rfl,rfl⟩
 split
 ·unfold zcK;dsimp only;split<;>exact ⟨rfl,rfl,rfl⟩
 split
 ·exact ⟨rfl,rfl,rfl⟩
 split
 ·unfold zlD;dsimp only
  split
  ·exact ⟨rfl,rfl,rfl⟩
  ·split<;>exact ⟨rfl,rfl,rfl⟩
 split
 ·exact ⟨rfl,rfl,rfl⟩
 split
 ·unfold zll;dsimp only
  split
  ·exact ⟨rfl,rfl,rfl⟩
  ·split<;>exact ⟨rfl,rfl,rfl⟩
 split
 ·exact ⟨rfl,rfl,rfl⟩
 split
 ·unfold zlL;dsimp only
  split
  ·exact ⟨rfl,rfl,rfl⟩
  split
  ·exact ⟨rfl,rfl,rfl⟩
  split<;>exact ⟨rfl,rfl,rfl⟩
 ·exact ⟨rfl,rfl,rfl⟩
end
end Go.Pe.G
namespace Go.Pe.G
open Go.Pe
noncomputable section
def OkV (nb:Nat) (v:BitVec 64):Prop:=yg v<nb/\0<=v.toInt/\v.toInt<nb
theorem zyl {nb:Nat}(h:1<=nb):OkV nb 0#64:=by
 refine ⟨by rw [zlI];simp;omega,by simp,by simp;omega⟩
theorem zuR {nb:Nat}{b:Int}(h:0<=b) (h2:b<nb) (h3:nb<1000):OkV nb (BitVec.ofInt 64 b):=by
 have e:(BitVec.ofInt 64 b).toNat=b.toNat:=by rw [zHE];omega
 refine ⟨by rw [zlI,e];omega,?_⟩
 rw [toInt_ofInt h (by omega)]
 omega
theorem zwf {b:Int}(h:0<=b) (h2:b<4294967296):xd 0#64 b=BitVec.ofInt 64 b:=by
 have e:(BitVec.ofInt 64 b).toNat=b.toNat:=by rw [zHE];omega
 apply zH2
 unfold xd
 rw [BitVec.toNat_or,zHW,e]
 have:b.toNat&&&(4294967295#64).toNat=b.toNat:=(zIA b.toNat 32).trans (Nat.mod_eq_of_lt (by omega))
 rw [this]
 simp
def X3 (F:Int) (nb:Nat) (m:List (BitVec 64)):Prop:=∀a,F<=a->OkV nb (ld m a)
theorem X3.st {F:Int}{nb:Nat}{m:List (BitVec 64)}(h:X3 F nb m) (a:Int) {v:BitVec 64}(hv:OkV nb v):X3 F nb (st m a v):=fun b hb=>by
 rw [Wl]
 split
 ·exact hv
 ·exact h b hb
theorem X3.links {F:Int}{nb:Nat}(h1:1<=nb) (h3:nb<1000):∀(l:List Int) (m:List (BitVec 64)) (n:Int),(∀b∈l,0<=b/\b<nb)->X3 F nb m->X3 F nb (links m n l)
 | [],m,n,_,h=>h
 | [a],m,n,_,h=>h.st _ (zyl h1)
 | a::b::l,m,n,hb,h=>X3.links h1 h3 (b::l) _ n (fun x hx=>hb x (zGU _ hx)) (h.st _ (zuR (hb b (by simp)).1 (hb b (by simp)).2 h3))
theorem X3.lay {F:Int}{nb:Nat}(h1:1<=nb) (h3:nb<1000) {l:List Int}{m:List (BitVec 64)}{hd n:Int}(hb:∀b∈l,0<=b/\b<nb) (h:X3 F nb m):X3 F nb (zcA m hd n l):=by
 unfold zcA
 refine (X3.links h1 h3 l m n hb h).st _ ?_
 cases l with
 | nil=>rw [List.headD_nil,zwf (by omega) (by omega)];exact zuR (by omega) (by omega) h3
 | cons a r =>
  have:=hb a (by simp)
  rw [List.headD_cons,zwf this.1 (by omega)]
  exact zuR this.1 this.2 h3
theorem zff {k:Nat}{b:Int}(h:b∈xq k):1<=b/\b<=k:=by
 unfold xq at h
 obtain ⟨i,hi,rfl⟩:=zG2.1 h
 have:=zHj.1 hi
 omega
theorem zcJ {p:zb}(h:zB p):(zR p:Int)=p.Most+p.Workers+p.Mutators/\2<=zR p/\zR p<=14:=by
 have:=h.most
 have:=h.n
 have:=h.wk
 have:=h.mt
 unfold zR
 omega
theorem zAf {p:zb}(h:zB p):SOk p (zR p+1) (yv p):=by
 have hb:=zcJ h
 have hf:=zoB h
 have hn:=h.n
 have hw:=h.wk
 have hc:=h.cap
 have hmo:=h.most
 have hF:=Zx h
 have hE:=wo h
 have hcl:=UB p p.Workers.toNat
 have hfe:zZ p=((p.Workers.toNat*(p.Cap.toNat+2):Nat):Int):=by
  rw [hF.1]
  have e1:p.Workers=((p.Workers.toNat:Nat):Int):=by omega
  have e2:p.Cap+2=((p.Cap.toNat+2:Nat):Int):=by omega
  rw [e2,Int.natCast_mul]
  rw [<-e1]
 have h0:X3 (zZ p) (zR p+1) (Yw p p.Workers.toNat++List.replicate (2+zR p) 0#64):=by
  intro a ha
  have:ld (Yw p p.Workers.toNat++List.replicate (2+zR p) 0#64) a=0#64:=by
   unfold ld
   rw [if_pos (by omega),zGP,zHm (by omega),zIb]
   split<;>rfl
  rw [this]
  exact zyl (by omega)
 have h1:X3 (zZ p) (zR p+1) (yv p).M:=by
  refine X3.lay (by omega) (by omega) (fun b hb'=>?_) (X3.lay (by omega) (by omega) (fun b hb'=>?_) h0)
  ·have:=zff (List.mem_of_mem_drop hb');omega
  ·have:=zff (zIg hb');omega
 have hlen:(yv p).M.length=p.Workers.toNat*(p.Cap.toNat+2)+(2+zR p):=by
  show (zcA _ _ _ _).length=_
  rw [zsc,zsc,zGZ,hcl,zHC]
 refine ⟨rfl,?_,by omega,by rw [hlen];omega,(h1 _ (by omega)).1,(h1 _ (by omega)).1,fun a ha=>(h1 a (by omega)).2⟩
 have hd:(yv p).Bins.length=1+(yW p).length+(zR p-(yW p).length):=by
  show ([[]]++yW p++List.replicate (zR p-(yW p).length) ([]:List Int)).length=_
  rw [zGZ,zGZ,zHC];rfl
 have h2:=hb.1
 have hmt:=h.mt
 rw [hd]
 omega
def ZM (mode obj who:Int):zu:=⟨0,mode,obj,who,⟨0,0,0,0,0#64,0#64,0,0⟩,⟨0,0,0,0,0#64,0,0,0⟩,0,0⟩
theorem znO (a b c:Int):zaK a b c=some (ZM a b c,()):=by rw [zus];rfl
end
end Go.Pe.G
namespace Go.Pe.G
open Go.Pe
noncomputable section
def zi0 (m:List (BitVec 64)) (d:zd):List (BitVec 64)×zd :=
 if d.PC<0\/7<=d.PC then (m,d)
 else if d.PC=0 then (m,{d with B:=ld m (wc (d.Base+1)),PC:=1})
 else if d.PC=1 then (st m (wc (d.Base+1)) (d.B-1#64),{d with PC:=2})
 else if d.PC=2 then (m,{d with T:=ld m d.Base,PC:=if 0<(ld m d.Base-(d.B-1#64)).toInt then 5 else 3})
 else if d.PC=3 then (m,{d with X:=(ld m (YN d (d.B-1#64))).toInt,PC:=4,Out:=if d.T=d.B-1#64 then d.Out else 1})
 else if d.PC=4 then ((sw m d.Base d.T (d.T+1#64)).1,{d with PC:=if (sw m d.Base d.T (d.T+1#64)).2 then 6 else 5})
 else if d.PC=5 then (st m (wc (d.Base+1)) d.B,{d with X:=0,Out:=2,PC:=6})
 else (st m (wc (d.Base+1)) d.B,{d with Out:=1,PC:=7})
def zbj (m:List (BitVec 64)) (d:zd):List (BitVec 64)×zd :=
 if d.PC<0\/4<=d.PC then (m,d)
 else if d.PC=0 then (m,{d with T:=ld m d.Base,PC:=1})
 else if d.PC=1 then (m,{d with B:=ld m (wc (d.Base+1)),PC:=2,Out:=if 0<(ld m (wc (d.Base+1))-d.T).toInt then d.Out else 2})
 else if d.PC=2 then (m,{d with X:=(ld m (YN d d.T)).toInt,PC:=3})
 else ((sw m d.Base d.T (d.T+1#64)).1,if (sw m d.Base d.T (d.T+1#64)).2 then {d with Out:=1,PC:=4} else {d with X:=0,Out:=4,PC:=4})
def zT (m:List (BitVec 64)) (d:zd):List (BitVec 64)×zd :=
 if d.Out≠0 then (m,d) else if d.Kind=1 then yE m d else if d.Kind=2 then zi0 m d else if d.Kind=3 then zbj m d else (m,d)
theorem zzL {m:List (BitVec 64)}{d:zd}(h:d.Kind=1):zT m d=yE m d:=by
 unfold zT
 by_cases h0:d.Out≠0
 ·rw [if_pos h0];unfold yE;rw [if_pos (.inl h0)]
 ·rw [if_neg h0,if_pos h]
theorem zzP {α:Type}{x y:Option α}{v:α}(h:x=some v):Option.or x y=some v:=by subst h;rfl
theorem zi6 {α:Type}{x y z:Option α}(h:x=none) (h2:y=z):Option.or x y=z:=by subst h;exact h2
theorem zDo:wc 1=1/\wc 2=2/\wc 3=3/\wc 4=4/\wc 5=5/\wc 6=6/\wc 7=7:=by decide
theorem zCq:w64 5=5/\w64 6=6/\w64 7=7:=by
 refine ⟨?_,?_,?_⟩<;>exact zV (by omega) (by omega)
theorem zAR {m:List (BitVec 64)}(hm:m.length<4294967296) {d:zd}(hc:d.Cap<1000):zaJ m d=some ((zT m d).1,(zT m d).2,()):=by
 by_cases k1:d.Kind=1
 ·rw [zzL k1];exact zlk hm k1 hc
 obtain ⟨w0,w1,w2,w3,w4⟩:=zxA
 obtain ⟨w5,w6,w7⟩:=zCq
 obtain ⟨v1,v2,v3,v4,v5,v6,v7⟩:=zDo
 have hsb:∀d:zd,wR m d=some (m,{d with B:=ld m (wc (d.Base+1))},()):=fun d=>by
  rw [Wt,xk,xi,zGL,Yp];rfl
 have htk:∀d:zd,Xq m d=some ((sw m d.Base d.T (d.T+1#64)).1,(sw m d.Base d.T (d.T+1#64)).2,()):=fun d=>by
  obtain ⟨v,hv⟩:=zvE hm d.Base d.T (d.T+1#64)
  rw [zlc,uY,zGL,hv];rfl
 rw [zlw,zh3,zrj,zrb,zrh]
 simp only [zj,yx,if_neg k1]
 unfold zT
 by_cases k2:d.Kind=2
 ·refine zi6 (by simp [k2]) (zzP ?_)
  rw [if_pos k2,zGL]
  by_cases g0:d.Out=0
  rotate_left
  ·rw [if_neg g0,if_pos (show d.Out≠0 from g0)]
  rw [if_pos g0,if_neg (show ¬(d.Out≠0) from fun e=>e g0),if_neg k1,if_pos k2]
  unfold zi0
  by_cases g1:d.PC<0
  ·rw [if_pos g1,if_pos (.inl g1)]
  rw [if_neg g1]
  by_cases g2:7<=d.PC
  ·rw [if_pos g2,if_pos (.inr g2)]
  rw [if_neg g2,if_neg (show ¬(d.PC<0\/7<=d.PC) by omega)]
  have hpc:d.PC=0\/d.PC=1\/d.PC=2\/d.PC=3\/d.PC=4\/d.PC=5\/d.PC=6:=by omega
  rcases hpc with h | h | h | h | h | h | h
  ·simp [h,hsb,w1]
  ·simp [h,zjP,xk,xi,zcc hm,v1,v2,v3,v4,v5,v6,v7]
  ·rw [h,if_neg (by decide),if_neg (by decide),if_neg (by decide),if_neg (by decide),if_pos rfl,if_neg (by decide),if_neg (by decide),if_pos rfl]
   simp only [zeZ,uY,zGL,Yp,zcE,zj]
   by_cases hs:0<(ld m d.Base-(d.B-1#64)).toInt
   ·simp only [if_pos hs,zGL,Int.reduceAdd,w5]
   ·simp only [if_neg hs,zGL,h,Int.reduceAdd,w3]
  ·simp only [h,zio,zf9 hc,zGL,Yp,yx,wA]
   by_cases hs:d.T=d.B-1#64
   ·simp [hs,w4,h]
   ·simp [hs,w4,h]
  ·simp only [h,zhC,htk,zGL]
   cases hs:(sw m d.Base d.T (d.T+1#64)).2 with
   | true=>simp [hs,w6,h]
   | false=>simp [hs,w5,h]
  ·simp [h,zhj,wA,k1,xk,xi,zcc hm,v1,v2,v3,v4,v5,v6,v7]
  ·simp [h,ziJ,wA,xk,xi,zcc hm,v1,v2,v3,v4,v5,v6,v7]
 by_cases k3:d.Kind=3
 ·refine zi6 (by simp [k2,k3]) (zi6 (by simp [k2,k3]) (zzP ?_))
  rw [if_neg k2,if_pos k3,zGL]
  by_cases g0:d.Out=0
  rotate_left
  ·rw [if_neg g0,if_pos (show d.Out≠0 from g0)]
  rw [if_pos g0,if_neg (show ¬(d.Out≠0) from fun e=>e g0),if_neg k1,if_neg k2,if_pos k3]
  unfold zbj
  by_cases g1:d.PC<0
  ·rw [if_pos g1,if_pos (.inl g1)]
  rw [if_neg g1]
  by_cases g2:4<=d.PC
  ·rw [if_pos g2,if_pos (.inr g2)]
  rw [if_neg g2,if_neg (show ¬(d.PC<0\/4<=d.PC) by omega)]
  have hpc:d.PC=0\/d.PC=1\/d.PC=2\/d.PC=3:=by omega
  rcases hpc with h | h | h | h
  ·simp [h,zi1,uY,Yp,w1]
  ·rw [h,if_neg (by decide),if_neg (by decide),if_pos rfl,if_neg (by decide),if_pos rfl]
   simp only [ziC,xk,zGL,Yp,zcE,yx,xi]
   by_cases hs:0<(ld m (wc (d.Base+1))-d.T).toInt
   ·simp only [if_pos hs,zGL,Int.reduceAdd,v2,h]
   ·simp only [if_neg hs,zGL,Int.reduceAdd,v2,h]
  ·simp [h,zhN,zf9 hc,Yp,w3]
  ·simp only [h,zfO,htk,zGL,wA]
   cases hs:(sw m d.Base d.T (d.T+1#64)).2 with
   | true=>simp [hs,w4,h]
   | false=>simp [hs,w4,h,k1]
 ·refine zi6 (by simp [k2,k3]) (zi6 (by simp [k2,k3]) (zi6 (by simp [k2,k3]) ?_))
  rw [if_neg k2,if_neg k3,zGL]
  by_cases g0:d.Out=0
  ·simp [g0,k1,k2,k3]
  ·simp [g0]
theorem zAv (m:List (BitVec 64)) (d:zd):(zi0 m d).1.length=m.length/\(zi0 m d).2.Kind=d.Kind/\(zi0 m d).2.Base=d.Base/\(zi0 m d).2.Cap=d.Cap:=by
 unfold zi0 sw st
 split
 ·exact ⟨rfl,rfl,rfl,rfl⟩
 split
 ·exact ⟨rfl,rfl,rfl,rfl⟩
 split
 ·refine ⟨?_,rfl,rfl,rfl⟩;dsimp only;split<;>simp
 split
 ·exact ⟨rfl,rfl,rfl,rfl⟩
 split
 ·exact ⟨rfl,rfl,rfl,rfl⟩
 split
 ·refine ⟨?_,rfl,rfl,rfl⟩;dsimp only;split<;>(try split)<;>simp
 split<;>(refine ⟨?_,rfl,rfl,rfl⟩;dsimp only;split<;>simp)
theorem zyO (m:List (BitVec 64)) (d:zd):(zbj m d).1.length=m.length/\(zbj m d).2.Kind=d.Kind/\(zbj m d).2.Base=d.Base/\(zbj m d).2.Cap=d.Cap:=by
 unfold zbj sw st
 split
 ·exact ⟨rfl,rfl,rfl,rfl⟩
 split
 ·exact ⟨rfl,rfl,rfl,rfl⟩
 split
 ·exact ⟨rfl,rfl,rfl,rfl⟩
 split
 ·exact ⟨rfl,rfl,rfl,rfl⟩
 ·refine ⟨?_,?_,?_,?_⟩<;>dsimp only<;>split<;>(try split)<;>simp
end
end Go.Pe.G
namespace Go.Pe.G
open Go.Pe
noncomputable section
def zN (h:zo) (o:Int):List Int:=h.Objs.getD (o-1).toNat []
def WO (h:zo) (o s:Int):Bool:=decide (1<=o)&&decide (o<=(h.Objs.length:Int))&&decide (0<=s)&&decide (s<((zN h o).length:Int))
def yV (h:zo) (o s:Int):Int:=if WO h o s then (zN h o).getD s.toNat 0 else 0
def zX (s:BitVec 64) (o:Int):Bool:= !(decide (s&&&bit o=0#64))
def wW (t:zq) (o:Int):Int:=if zX (t.Marks&&&t.Black) o then 2 else if zX t.Marks o then 1 else 0
def wK (t:zq) (o:Int):zq:=if wW t o=1 then {t with Black:=t.Black|||bit o} else t
def zcx (l:zk) (who:Int):zk :=
 if 1<=who/\who<=(l.Bal.length:Int) then {l with Scanned:=wc (l.Scanned+1),Bal:=l.Bal.set (who-1).toNat (wc (l.Bal.getD (who-1).toNat 0+1))}
 else {l with Scanned:=wc (l.Scanned+1),Pool:=wc (l.Pool+1)}
def W1 (s:za) (b:Int):List Int:=s.Bins.getD b.toNat []
def zA1 (p:zb) (h x:Int):zE:=⟨2,0,h,zD p,0#64,x,0,0⟩
def za9 (p:zb) (h x:Int):zE:=⟨1,0,h,zD p,0#64,x,0,0⟩
def onW (s:za) (slot:Int):Int:=if slot=s.H.Slots then 8 else 5
def V8 (p:zb) (w:Int) (x:zh):zh:={x with PC:=0,Victim:=w,D:=⟨2,0,zI p w,p.Cap,0#64,0#64,0,0⟩}
def ziO (n v:Int):Int:=if v<n then v+1 else 1
def Yo (p:zb) (w:Int) (x:zh):zh :=
 if ziO p.Workers x.Victim=w then {x with PC:=2,Victim:=w,C:=zA1 p (zZ p) 0}
 else {x with PC:=1,Victim:=ziO p.Workers x.Victim,D:=⟨3,0,zI p (ziO p.Workers x.Victim),p.Cap,0#64,0#64,0,0⟩}
def zp (s:za) (w:Int) (x:zh):za×zh :=
 if x.PC=0\/x.PC=1 then
  ({s with M:=(zT s.M x.D).1},
   if (zT s.M x.D).2.Out=1 then {x with D:=(zT s.M x.D).2,Victim:=w,PC:=5,Obj:=(zT s.M x.D).2.X,Slot:=0}
   else if (zT s.M x.D).2.Out=2\/(zT s.M x.D).2.Out=4 then Yo s.P w {x with D:=(zT s.M x.D).2} else {x with D:=(zT s.M x.D).2})
 else if x.PC=2 then
  ({s with M:=(zn s.M x.C).1},
   if (zn s.M x.C).2.Out=1 then {x with C:=(zn s.M x.C).2,Bin:=(zn s.M x.C).2.X,PC:=3}
   else if (zn s.M x.C).2.Out=2 then V8 s.P w {x with C:=(zn s.M x.C).2} else {x with C:=(zn s.M x.C).2})
 else if x.PC=3 then ({s with Bins:=s.Bins.set x.Bin.toNat []},{x with Batch:=W1 s x.Bin,PC:=4,C:=za9 s.P (zD s.P) x.Bin})
 else if x.PC=4 then
  ({s with M:=(zn s.M x.C).1},if (zn s.M x.C).2.Out=1 then {x with C:=(zn s.M x.C).2,Bin:=0,PC:=7} else {x with C:=(zn s.M x.C).2})
 else if x.PC=5 then
  (s,if yV s.H x.Obj x.Slot=0 then {x with Slot:=wc (x.Slot+1),PC:=onW s (wc (x.Slot+1))} else {x with Slot:=wc (x.Slot+1),PC:=6,G:=ZM 1 (yV s.H x.Obj x.Slot) w})
 else if x.PC=6 then ((zx s x.G).1,if (zx s x.G).2.Out=1 then {x with G:=(zx s x.G).2,PC:=onW s x.Slot} else {x with G:=(zx s x.G).2})
 else if x.PC=7 then (s,match x.Batch with | []=>V8 s.P w x | o::l=>{x with Batch:=l,PC:=5,Obj:=o,Slot:=0})
 else if x.PC=8 then ({s with T:=wK s.T x.Obj,L:=zcx s.L 0},{x with PC:=9})
 else if x.PC=9 then ({s with Work:=wc (s.Work-1)},{x with Obj:=0,PC:=7})
 else (s,x)
def z9 (s:za) (w:Int):za :=
 if s.Done=true\/w<1\/(s.Ws.length:Int)<w then s
 else match s.Ws[(w-1).toNat]? with
  | some x=>{(zp s w x).1 with Ws:=s.Ws.set (w-1).toNat (zp s w x).2}
  | none=>s
structure zAY (p:zb) (nb:Nat) (hd:Int) (c:zE):Prop where
 k:c.Kind=2
 h:c.Head=hd
 n:c.Next=zD p
 v:1<=c.PC->1<=yg c.H/\yg c.H<nb
 y:2<=c.PC->0<=c.Y/\c.Y<nb
 o:c.Out≠1
structure zy2 (p:zb) (nb:Nat) (hd:Int) (c:zE):Prop where
 k:c.Kind=1
 h:c.Head=hd
 n:c.Next=zD p
 x:1<=c.X/\c.X<nb
 v:1<=c.PC->yg c.H<nb
theorem zAe {p:zb}{nb:Nat}{hd x:Int}:zAY p nb hd (zA1 p hd x) :=
 ⟨rfl,rfl,rfl,fun e=>absurd e (by show ¬(1:Int)<=0;decide),fun e=>absurd e (by show ¬(2:Int)<=0;decide),by show (0:Int)≠1;decide⟩
theorem zy1 {p:zb}{nb:Nat}{hd x:Int}(h:1<=x/\x<nb):zy2 p nb hd (za9 p hd x) :=
 ⟨rfl,rfl,rfl,h,fun e=>absurd e (by show ¬(1:Int)<=0;decide)⟩
structure WOk (p:zb) (nb:Nat) (w:Int) (x:zh):Prop where
 pc:0<=x.PC/\x.PC<=9
 vic:1<=x.Victim/\x.Victim<=p.Workers
 d0:x.PC=0->x.D.Kind=2/\x.D.Base=zI p w/\x.D.Cap=p.Cap
 d1:x.PC=1->x.D.Kind=3/\x.D.Base=zI p x.Victim/\x.D.Cap=p.Cap
 c2:x.PC=2->zAY p nb (zZ p) x.C
 b3:x.PC=3->1<=x.Bin/\x.Bin<nb
 c4:x.PC=4->zy2 p nb (zD p) x.C
 g6:x.PC=6->MOk p nb x.G/\(x.G.PC=5->x.G.C.Out≠1)/\x.G.Mode=1/\x.G.PC≠4
theorem WOk.plain {p:zb}{nb:Nat}{w:Int}{x:zh}(pc:x.PC=5\/x.PC=7\/x.PC=8\/x.PC=9) (vic:1<=x.Victim/\x.Victim<=p.Workers):WOk p nb w x :=
 ⟨by omega,vic,fun e=>by omega,fun e=>by omega,fun e=>by omega,fun e=>by omega,fun e=>by omega,fun e=>by omega⟩
theorem SOk.swLow {p:zb}{nb:Nat}{s:za}(h:zB p) (S:SOk p nb s) {a:Int}(ha:a<zZ p) (x v:BitVec 64):SOk p nb {s with M:=(sw s.M a x v).1}:=by
 unfold sw
 split
 ·exact S.low h ha v
 ·exact S
theorem zF6 {p:zb}{nb:Nat}{s:za}(h:zB p) (S:SOk p nb s) {d:zd}{v:Int}(hv:1<=v/\v<=p.Workers) (hk:d.Kind=2\/d.Kind=3) (hb:d.Base=zI p v):SOk p nb {s with M:=(zT s.M d).1}:=by
 have hd:=Yl h hv.1 hv.2
 have hc:=h.cap
 have hf:=Zx h
 have e1:wc (d.Base+1)=d.Base+1:=xr (by omega) (by omega)
 unfold zT
 split
 ·exact S
 split
 ·omega
 split
 ·unfold zi0
  rw [e1]
  split
  ·exact S
  split
  ·exact S
  split
  ·exact S.low h (by omega) _
  split
  ·exact S
  split
  ·exact S
  split
  ·exact S.swLow h (by omega) _ _
  split<;>exact S.low h (by omega) _
 split
 ·unfold zbj
  split
  ·exact S
  split
  ·exact S
  split
  ·exact S
  split
  ·exact S
  ·exact S.swLow h (by omega) _ _
 ·exact S
theorem zmL (m:List (BitVec 64)) (d:zd):(zT m d).1.length=m.length/\(zT m d).2.Kind=d.Kind/\(zT m d).2.Base=d.Base/\(zT m d).2.Cap=d.Cap:=by
 unfold zT
 split
 ·exact ⟨rfl,rfl,rfl,rfl⟩
 split
 ·unfold yE
  split
  ·exact ⟨rfl,rfl,rfl,rfl⟩
  split
  ·exact ⟨rfl,rfl,rfl,rfl⟩
  split
  ·refine ⟨rfl,?_,?_,?_⟩<;>dsimp only<;>split<;>rfl
  split<;>exact ⟨ZS _ _ _,rfl,rfl,rfl⟩
 split
 ·exact zAv m d
 split
 ·exact zyO m d
 ·exact ⟨rfl,rfl,rfl,rfl⟩
theorem zD0 {n v:Int}(h:1<=v/\v<=n):1<=ziO n v/\ziO n v<=n:=by unfold ziO;split<;>omega
theorem WOk.look {p:zb}{nb:Nat}{w:Int}{x:zh}(hw:1<=w/\w<=p.Workers) (vic:1<=x.Victim/\x.Victim<=p.Workers):WOk p nb w (Yo p w x):=by
 have hn:=zD0 vic
 unfold Yo
 split
 ·exact ⟨⟨(by show (0:Int)<=2;decide),(by show (2:Int)<=9;decide)⟩,hw,fun e=>(by cases e),fun e=>(by cases e),fun _=>zAe,fun e=>(by cases e),fun e=>(by cases e),fun e=>(by cases e)⟩
 ·exact ⟨⟨(by show (0:Int)<=1;decide),(by show (1:Int)<=9;decide)⟩,hn,fun e=>(by cases e),fun _=>⟨rfl,rfl,rfl⟩,fun e=>(by cases e),fun e=>(by cases e),fun e=>(by cases e),fun e=>(by cases e)⟩
theorem WOk.begin {p:zb}{nb:Nat}{w:Int}{x:zh}(hw:1<=w/\w<=p.Workers):WOk p nb w (V8 p w x) :=
 ⟨⟨(by show (0:Int)<=0;decide),(by show (0:Int)<=9;decide)⟩,hw,fun _=>⟨rfl,rfl,rfl⟩,fun e=>(by cases e),fun e=>(by cases e),fun e=>(by cases e),fun e=>(by cases e),fun e=>(by cases e)⟩
theorem zz1 (s:za) {g:zu}(h1:g.Mode=1) (h4:g.PC≠4):(zx s g).2.PC≠4/\(zx s g).1.Flag=s.Flag:=by
 have five:(5:Int)≠4:=by decide
 unfold zx
 split
 ·exact ⟨h4,rfl⟩
 split
 ·refine ⟨?_,rfl⟩;unfold zcK;dsimp only;split<;>exact h4
 split
 ·exact ⟨(by show (7:Int)≠4;decide),rfl⟩
 split
 ·refine ⟨?_,rfl⟩;unfold zlD;dsimp only
  split
  ·show (6:Int)≠4;decide
  split
  ·exact five
  ·exact h4
 split
 ·refine ⟨?_,rfl⟩;unfold zll;dsimp only
  split
  ·exact h4
  split
  ·exact five
  ·exact h4
 split
 ·exact ⟨h4,rfl⟩
 split
 ·refine ⟨?_,rfl⟩;unfold zlL;dsimp only
  split
  ·show (2:Int)≠4;decide
  ·show (3:Int)≠4;decide
 ·exact ⟨(by show (1:Int)≠4;decide),rfl⟩
theorem zjK (s:za) (i:Int):onW s i=5\/onW s i=8:=by unfold onW;split<;>simp
theorem SOk.keep {p:zb}{nb:Nat}{s s':za}(S:SOk p nb s) (hP:s'.P=s.P) (hM:s'.M=s.M) (hB:s'.Bins.length=s.Bins.length):SOk p nb s' :=
 ⟨hP.trans S.P,hB.trans S.bins,S.nbk,by rw [hM];exact S.mem,by rw [hM];exact S.cF,by rw [hM];exact S.cE,by rw [hM];exact S.cL⟩
theorem zz3 {p:zb}{nb:Nat}{s:za}{w:Int}{x:zh}(h:zB p) (hw:1<=w/\w<=p.Workers) (S:SOk p nb s) (W:WOk p nb w x):SOk p nb (zp s w x).1/\WOk p nb w (zp s w x).2:=by
 have hP:=S.P
 unfold zp
 split
 ·rename_i h01
  have hv:∃v,(1<=v/\v<=p.Workers)/\(x.D.Kind=2\/x.D.Kind=3)/\x.D.Base=zI p v:=by
   rcases h01 with e | e
   ·obtain ⟨a,b,c⟩:=W.d0 e;exact ⟨w,hw,.inl a,b⟩
   ·obtain ⟨a,b,c⟩:=W.d1 e;exact ⟨x.Victim,W.vic,.inr a,b⟩
  obtain ⟨v,hv1,hv2,hv3⟩:=hv
  refine ⟨zF6 h S hv1 hv2 hv3,?_⟩
  obtain ⟨l1,l2,l3,l4⟩:=zmL s.M x.D
  dsimp only
  split
  ·exact WOk.plain (.inl rfl) hw
  split
  ·rw [hP];exact WOk.look hw W.vic
  ·refine ⟨W.pc,W.vic,fun e=>?_,fun e=>?_,fun e=>by dsimp only at e;omega,fun e=>by dsimp only at e;omega,fun e=>by dsimp only at e;omega,fun e=>by dsimp only at e;omega⟩
   ·obtain ⟨a,b,c⟩:=W.d0 e;exact ⟨l2.trans a,l3.trans b,l4.trans c⟩
   ·obtain ⟨a,b,c⟩:=W.d1 e;exact ⟨l2.trans a,l3.trans b,l4.trans c⟩
 split
 ·rename_i h2
  have C:=W.c2 h2
  obtain ⟨b1,b2,b3,b4,b5,b6⟩:=zxL h S (.inl rfl) C.k C.h C.n C.v C.y C.o
  refine ⟨b1,?_⟩
  dsimp only
  split
  ·rename_i e1
   exact ⟨⟨(by show (0:Int)<=3;decide),(by show (3:Int)<=9;decide)⟩,W.vic,fun e=>(by cases e),fun e=>(by cases e),fun e=>(by cases e),fun _=>b6 e1,fun e=>(by cases e),fun e=>(by cases e)⟩
  split
  ·rw [hP];exact WOk.begin hw
  ·rename_i e1 e2
   exact ⟨W.pc,W.vic,fun e=>(by dsimp only at e;omega),fun e=>(by dsimp only at e;omega),fun _=>⟨b2,b3,b4,(b5 e1 e2).1,(b5 e1 e2).2,e1⟩,fun e=>(by dsimp only at e;omega),fun e=>(by dsimp only at e;omega),fun e=>(by dsimp only at e;omega)⟩
 split
 ·rename_i h3
  have B:=W.b3 h3
  refine ⟨S.keep rfl rfl (by simp),?_⟩
  rw [hP]
  exact ⟨⟨(by show (0:Int)<=4;decide),(by show (4:Int)<=9;decide)⟩,W.vic,fun e=>(by cases e),fun e=>(by cases e),fun e=>(by cases e),fun e=>(by cases e),fun _=>zy1 B,fun e=>(by cases e)⟩
 split
 ·rename_i h4
  have C:=W.c4 h4
  obtain ⟨b1,b2,b3,b4,b5,b6⟩:=zuy h S (.inr rfl) C.k C.h C.n C.x C.v
  refine ⟨b1,?_⟩
  dsimp only
  split
  ·exact WOk.plain (.inr (.inl rfl)) W.vic
  ·exact ⟨W.pc,W.vic,fun e=>(by dsimp only at e;omega),fun e=>(by dsimp only at e;omega),fun e=>(by dsimp only at e;omega),fun e=>(by dsimp only at e;omega),fun _=>⟨b2,b3,b4,b5,b6⟩,fun e=>(by dsimp only at e;omega)⟩
 split
 ·refine ⟨S,?_⟩
  dsimp only
  split
  ·rcases zjK s (wc (x.Slot+1)) with e | e<;>rw [e]
   ·exact WOk.plain (.inl rfl) W.vic
   ·exact WOk.plain (.inr (.inr (.inl rfl))) W.vic
  ·exact ⟨⟨(by show (0:Int)<=6;decide),(by show (6:Int)<=9;decide)⟩,W.vic,fun e=>(by cases e),fun e=>(by cases e),fun e=>(by cases e),fun e=>(by cases e),fun e=>(by cases e),fun _ =>
    ⟨⟨fun _=>hw,fun e=>(by cases e),fun e=>(by cases e),fun e=>(by cases e),fun e=>(by cases e)⟩,fun e=>(by cases e),rfl,by show (0:Int)≠4;decide⟩⟩
 split
 ·rename_i h6
  obtain ⟨g1,g2,g3,g4⟩:=W.g6 h6
  obtain ⟨r1,r2,r3⟩:=zqN h S g1 g2
  refine ⟨r1,?_⟩
  dsimp only
  split
  ·rcases zjK s x.Slot with e | e<;>rw [e]
   ·exact WOk.plain (.inl rfl) W.vic
   ·exact WOk.plain (.inr (.inr (.inl rfl))) W.vic
  ·exact ⟨W.pc,W.vic,fun e=>(by dsimp only at e;omega),fun e=>(by dsimp only at e;omega),fun e=>(by dsimp only at e;omega),fun e=>(by dsimp only at e;omega),fun e=>(by dsimp only at e;omega),fun _=>⟨r2,r3,(Ux s x.G).2.2.trans g3,(zz1 s g3 g4).1⟩⟩
 split
 ·refine ⟨S,?_⟩
  dsimp only
  split
  ·rw [hP];exact WOk.begin hw
  ·exact WOk.plain (.inl rfl) W.vic
 split
 ·exact ⟨S.keep rfl rfl rfl,WOk.plain (.inr (.inr (.inr rfl))) W.vic⟩
 split
 ·exact ⟨S.keep rfl rfl rfl,WOk.plain (.inr (.inl rfl)) W.vic⟩
 ·have:=W.pc
  omega
end
end Go.Pe.G
namespace Go.Pe.G
open Go.Pe
noncomputable section
def U8 (h:zo) (o s v:Int):zo :=
 if WO h o s=true/\0<=v/\v<=(h.Objs.length:Int) then {h with Objs:=h.Objs.set (o-1).toNat ((zN h o).set s.toNat v)} else h
def Xy (h:zo) (most:Int):Bool:=decide ((h.Objs.length:Int)<most)&&decide ((h.Objs.length:Int)<64)
def uk (h:zo):zo:={h with Objs:=h.Objs++[List.replicate h.Slots.toNat 0]}
def XT (t:zq) (o:Int):zq:=if (vw t o).2=true then wK (vw t o).1 o else t
def zbh (l:zk) (who:Int):Int:=l.Bal.getD (who-1).toNat 0
def US (l:zk) (who:Int):Bool:=decide (1<=who)&&decide (who<=(l.Bal.length:Int))
def U5 (l:zk) (who price limit:Int):Bool:=US l who&&decide (0<=price)&&decide (0<=limit)&&decide (price<=1000000)&&decide (limit<=1000000)
def zfJ (l:zk) (who price limit:Int):Bool:=U5 l who price limit&&decide (wc (-limit)<=wc (zbh l who-price))
def zbR (l:zk) (who price:Int):zk:={l with Spent:=wc (l.Spent+price),Bal:=l.Bal.set (who-1).toNat (wc (zbh l who-price))}
def zpc (l:zk) (who price limit:Int):Int:=if U5 l who price limit then (if zfJ l who price limit then 0 else wc (wc (price-limit)-zbh l who)) else -1
def zmH (a b:Int):Int:=if b<a then b else a
def zcq (l:zk) (who want:Int):zk×Int :=
 if US l who=true/\0<zmH want l.Pool then ({l with Pool:=wc (l.Pool-zmH want l.Pool),Bal:=l.Bal.set (who-1).toNat (wc (zbh l who+zmH want l.Pool))},zmH want l.Pool) else (l,0)
def wM (p:zb) (m:Int):List zm:=p.Progs.getD (m-1).toNat []
def opM (p:zb) (m:Int) (x:zc):zm:=(wM p m).getD x.IP.toNat ⟨0,0,0,0⟩
def zbH (x:zc) (r:Int):Int:=x.Regs.getD r.toNat 0
def VI (x:zc):zc:={x with PC:=0,IP:=wc (x.IP+1)}
def setM (x:zc) (r v:Int):zc:={x with PC:=0,IP:=wc (x.IP+1),Regs:=x.Regs.set r.toNat v}
def onM (s:za) (slot:Int):Int:=if slot=s.H.Slots then 38 else 36
def zxa (s:za) (m:Int) (x:zc):Int:=yV s.H (zbH x (opM s.P m x).A) (opM s.P m x).S
def zcm (s:za) (m:Int) (x:zc):zc :=
 if s.Acks.getD (m-1).toNat 0<s.Epoch then {x with PC:=1,Ret:=2,Want:=s.Epoch}
 else if ((wM s.P m).length:Int)<=x.IP then x
 else if (opM s.P m x).Kind=1 then {x with PC:=10}
 else if (opM s.P m x).Kind=2 then {x with PC:=20}
 else if (opM s.P m x).Kind=3 then {x with PC:=30}
 else if (opM s.P m x).Kind=4 then setM x (opM s.P m x).R (zbH x (opM s.P m x).A)
 else setM x (opM s.P m x).R 0
def mu0 (s:za) (m:Int) (x:zc):za×zc :=
 (s,zcm s m x)
def mu1 (s:za) (m:Int) (x:zc):za×zc :=
 (s,if x.Buf.length=0 then {x with PC:=x.Ret} else {x with PC:=3,Buf:=x.Buf.take (x.Buf.length-1),G:=ZM 2 (x.Buf.getD (x.Buf.length-1) 0) m})
def mu2 (s:za) (m:Int) (x:zc):za×zc :=
 ({s with Acks:=s.Acks.set (m-1).toNat x.Want},{x with PC:=0})
def mu3 (s:za) (m:Int) (x:zc):za×zc :=
 ((zx s x.G).1,if (zx s x.G).2.Out=1 then {x with PC:=1,G:=(zx s x.G).2} else {x with G:=(zx s x.G).2})
def zmF (s:za) (m:Int) (x:zc):za×zc :=
 (s,setM x (opM s.P m x).R (zxa s m x))
def zkr (s:za) (m:Int) (x:zc):za×zc :=
 (s,if zbH x (opM s.P m x).A=0 then VI x else {x with PC:=21,Old:=zxa s m x})
def zjf (s:za) (m:Int) (x:zc):za×zc :=
 (s,if x.Old=0\/wW s.T x.Old≠0 then {x with PC:=23,Old:=0} else {x with PC:=22})
def zjG (s:za) (m:Int) (x:zc):za×zc :=
 (s,if s.P.Buf<=(x.Buf.length:Int) then {x with PC:=1,Ret:=22} else {x with PC:=23,Old:=0,Buf:=x.Buf++[x.Old]})
def zme (s:za) (m:Int) (x:zc):za×zc :=
 ({s with H:=U8 s.H (zbH x (opM s.P m x).A) (opM s.P m x).S (zbH x (opM s.P m x).R)},VI x)
def zfi (s:za) (m:Int) (x:zc):za×zc :=
   if zfJ s.L m s.P.Price s.P.Limit=true then
   if Xy s.H s.P.Most=true then ({s with L:=zbR s.L m s.P.Price,H:=uk s.H,T:=XT s.T (wc (s.H.Objs.length+1))},setM x (opM s.P m x).R (wc (s.H.Objs.length+1)))
   else (s,VI x)
  else (s,{x with PC:=31})
def zjL (s:za) (m:Int) (x:zc):za×zc :=
   ({s with L:=(zcq s.L m (zpc s.L m s.P.Price s.P.Limit)).1},if (zcq s.L m (zpc s.L m s.P.Price s.P.Limit)).2=0 then {x with PC:=32,C:=zA1 s.P (zZ s.P) x.Bin} else {x with PC:=0})
def zj8 (s:za) (m:Int) (x:zc):za×zc :=
   ({s with M:=(zn s.M x.C).1},if (zn s.M x.C).2.Out=1 then {x with PC:=33,Bin:=(zn s.M x.C).2.X,C:=(zn s.M x.C).2}
   else if (zn s.M x.C).2.Out=2 then {x with PC:=0,C:=(zn s.M x.C).2} else {x with C:=(zn s.M x.C).2})
def zmI (s:za) (m:Int) (x:zc):za×zc :=
 ({s with Bins:=s.Bins.set x.Bin.toNat []},{x with Batch:=W1 s x.Bin,PC:=34,C:=za9 s.P (zD s.P) x.Bin})
def zj4 (s:za) (m:Int) (x:zc):za×zc :=
   ({s with M:=(zn s.M x.C).1},if (zn s.M x.C).2.Out=1 then {x with C:=(zn s.M x.C).2,Bin:=0,PC:=35} else {x with C:=(zn s.M x.C).2})
def zjh (s:za) (m:Int) (x:zc):za×zc :=
 (s,match x.Batch with | []=>{x with PC:=0} | o::l=>{x with PC:=36,Obj:=o,Slot:=0,Batch:=l})
def zjH (s:za) (m:Int) (x:zc):za×zc :=
   (s,if yV s.H x.Obj x.Slot=0 then {x with Slot:=wc (x.Slot+1),PC:=onM s (wc (x.Slot+1))} else {x with Slot:=wc (x.Slot+1),PC:=37,G:=ZM 3 (yV s.H x.Obj x.Slot) m})
def zhK (s:za) (m:Int) (x:zc):za×zc :=
 ((zx s x.G).1,if (zx s x.G).2.Out=1 then {x with G:=(zx s x.G).2,PC:=onM s x.Slot} else {x with G:=(zx s x.G).2})
def zmM (s:za) (m:Int) (x:zc):za×zc :=
 ({s with T:=wK s.T x.Obj,L:=zcx s.L m},{x with PC:=39})
def zn0 (s:za) (m:Int) (x:zc):za×zc :=
 ({s with Work:=wc (s.Work-1)},{x with Obj:=0,PC:=35})
def zA (s:za) (m:Int) (x:zc):za×zc :=
 if x.PC=0 then mu0 s m x
 else if x.PC=1 then mu1 s m x
 else if x.PC=2 then mu2 s m x
 else if x.PC=3 then mu3 s m x
 else if x.PC=10 then zmF s m x
 else if x.PC=20 then zkr s m x
 else if x.PC=21 then zjf s m x
 else if x.PC=22 then zjG s m x
 else if x.PC=23 then zme s m x
 else if x.PC=30 then zfi s m x
 else if x.PC=31 then zjL s m x
 else if x.PC=32 then zj8 s m x
 else if x.PC=33 then zmI s m x
 else if x.PC=34 then zj4 s m x
 else if x.PC=35 then zjh s m x
 else if x.PC=36 then zjH s m x
 else if x.PC=37 then zhK s m x
 else if x.PC=38 then zmM s m x
 else if x.PC=39 then zn0 s m x
 else (s,x)
def yu (s:za) (m:Int):za :=
 if s.Done=true\/m<1\/(s.Ms.length:Int)<m then s
 else match s.Ms[(m-1).toNat]? with
  | some x=>{(zA s m x).1 with Ms:=s.Ms.set (m-1).toNat (zA s m x).2}
  | none=>s
def zgd (p:zb) (m:Int):Nat:=(p.Regs.getD (m-1).toNat []).length
structure XOk (p:zb) (nb:Nat) (m:Int) (x:zc):Prop where
 pc:(0<=x.PC/\x.PC<=3)\/x.PC=10\/(20<=x.PC/\x.PC<=23)\/(30<=x.PC/\x.PC<=39)
 regs:x.Regs.length=zgd p m
 ip:0<=x.IP/\x.IP<=((wM p m).length:Int)
 op:(10<=x.PC/\x.PC<=30)\/((x.PC=1\/x.PC=3)/\x.Ret=22)->x.IP<((wM p m).length:Int)
 ret:x.PC=1\/x.PC=3->x.Ret=2\/x.Ret=22
 c32:x.PC=32->zAY p nb (zZ p) x.C
 b33:x.PC=33->1<=x.Bin/\x.Bin<nb
 c34:x.PC=34->zy2 p nb (zD p) x.C
 bin:x.PC≠33->x.PC≠34->x.Bin=0
 g:x.PC=3\/x.PC=37->MOk p nb x.G/\(x.G.PC=5->x.G.C.Out≠1)/\x.G.Mode≠1
 buf:(x.Buf.length:Int)<=p.Buf
theorem XOk.move {p:zb}{nb:Nat}{m:Int}{x y:zc}(X:XOk p nb m x) (h:x.PC≠33/\x.PC≠34) (pc:y.PC=0\/y.PC=2\/y.PC=10\/(20<=y.PC/\y.PC<=23)\/y.PC=30\/y.PC=31\/y.PC=35\/y.PC=36\/y.PC=38\/y.PC=39)
  (regs:y.Regs.length=x.Regs.length) (bin:y.Bin=x.Bin) (buf:(y.Buf.length:Int)<=p.Buf) (ip:0<=y.IP/\y.IP<=((wM p m).length:Int)) (op:10<=y.PC/\y.PC<=30->y.IP<((wM p m).length:Int)):XOk p nb m y :=
 ⟨by omega,regs.trans X.regs,ip,fun e=>op (by omega),fun e=>by omega,fun e=>by omega,fun e=>by omega,fun e=>by omega,fun _ _=>bin.trans (X.bin h.1 h.2),fun e=>by omega,buf⟩
theorem zg2 (s:za) (i:Int):onM s i=36\/onM s i=38:=by unfold onM;split<;>simp
theorem XOk.next {p:zb}{nb:Nat}{m:Int}{x:zc}(hp:((wM p m).length:Int)<=64) (X:XOk p nb m x) (h:x.PC≠33/\x.PC≠34) (hi:x.IP<((wM p m).length:Int)):XOk p nb m (VI x):=by
 have:=X.ip
 have e:wc (x.IP+1)=x.IP+1:=xr (by omega) (by omega)
 refine X.move h (.inl rfl) rfl rfl X.buf ?_ (fun h=>absurd h (by show ¬((10:Int)<=0/\(0:Int)<=30);decide))
 show 0<=wc (x.IP+1)/\wc (x.IP+1)<=_
 rw [e];omega
theorem XOk.set {p:zb}{nb:Nat}{m:Int}{x:zc}(hp:((wM p m).length:Int)<=64) (X:XOk p nb m x) (h:x.PC≠33/\x.PC≠34) (hi:x.IP<((wM p m).length:Int)) (r v:Int):XOk p nb m (setM x r v):=by
 have:=X.ip
 have e:wc (x.IP+1)=x.IP+1:=xr (by omega) (by omega)
 refine X.move h (.inl rfl) (by simp [setM]) rfl X.buf ?_ (fun h=>absurd h (by show ¬((10:Int)<=0/\(0:Int)<=30);decide))
 show 0<=wc (x.IP+1)/\wc (x.IP+1)<=_
 rw [e];omega
theorem vu {motive:za×zc->Prop}(s:za) (m:Int) (x:zc) (h0:x.PC=0->motive (mu0 s m x)) (h1:x.PC=1->motive (mu1 s m x)) (h2:x.PC=2->motive (mu2 s m x)) (h3:x.PC=3->motive (mu3 s m x)) (h10:x.PC=10->motive (zmF s m x)) (h20:x.PC=20->motive (zkr s m x)) (h21:x.PC=21->motive (zjf s m x)) (h22:x.PC=22->motive (zjG s m x)) (h23:x.PC=23->motive (zme s m x)) (h30:x.PC=30->motive (zfi s m x)) (h31:x.PC=31->motive (zjL s m x)) (h32:x.PC=32->motive (zj8 s m x)) (h33:x.PC=33->motive (zmI s m x)) (h34:x.PC=34->motive (zj4 s m x)) (h35:x.PC=35->motive (zjh s m x)) (h36:x.PC=36->motive (zjH s m x)) (h37:x.PC=37->motive (zhK s m x)) (h38:x.PC=38->motive (zmM s m x)) (h39:x.PC=39->motive (zn0 s m x)) (hn:motive (s,x)):motive (zA s m x):=by
 unfold zA
 by_cases c0:x.PC=0
 ·rw [if_pos c0];exact h0 c0
 rw [if_neg c0]
 by_cases c1:x.PC=1
 ·rw [if_pos c1];exact h1 c1
 rw [if_neg c1]
 by_cases c2:x.PC=2
 ·rw [if_pos c2];exact h2 c2
 rw [if_neg c2]
 by_cases c3:x.PC=3
 ·rw [if_pos c3];exact h3 c3
 rw [if_neg c3]
 by_cases c10:x.PC=10
 ·rw [if_pos c10];exact h10 c10
 rw [if_neg c10]
 by_cases c20:x.PC=20
 ·rw [if_pos c20];exact h20 c20
 rw [if_neg c20]
 by_cases c21:x.PC=21
 ·rw [if_pos c21];exact h21 c21
 rw [if_neg c21]
 by_cases c22:x.PC=22
 ·rw [if_pos c22];exact h22 c22
 rw [if_neg c22]
 by_cases c23:x.PC=23
 ·rw [if_pos c23];exact h23 c23
 rw [if_neg c23]
 by_cases c30:x.PC=30
 ·rw [if_pos c30];exact h30 c30
 rw [if_neg c30]
 by_cases c31:x.PC=31
 ·rw [if_pos c31];exact h31 c31
 rw [if_neg c31]
 by_cases c32:x.PC=32
 ·rw [if_pos c32];exact h32 c32
 rw [if_neg c32]
 by_cases c33:x.PC=33
 ·rw [if_pos c33];exact h33 c33
 rw [if_neg c33]
 by_cases c34:x.PC=34
 ·rw [if_pos c34];exact h34 c34
 rw [if_neg c34]
 by_cases c35:x.PC=35
 ·rw [if_pos c35];exact h35 c35
 rw [if_neg c35]
 by_cases c36:x.PC=36
 ·rw [if_pos c36];exact h36 c36
 rw [if_neg c36]
 by_cases c37:x.PC=37
 ·rw [if_pos c37];exact h37 c37
 rw [if_neg c37]
 by_cases c38:x.PC=38
 ·rw [if_pos c38];exact h38 c38
 rw [if_neg c38]
 by_cases c39:x.PC=39
 ·rw [if_pos c39];exact h39 c39
 rw [if_neg c39]
 exact hn
theorem zCw {p:zb}{nb:Nat}{s:za}{m:Int}{x:zc}(h:zB p) (hp:((wM p m).length:Int)<=64) (S:SOk p nb s) (X:XOk p nb m x):SOk p nb (zA s m x).1/\XOk p nb m (zA s m x).2:=by
 have hP:=S.P
 have hip:=X.ip
 have hbuf:=X.buf
 have hb:=h.buf
 have nop:∀y:Int,31<=y->¬(10<=y/\y<=30):=fun y h e=>by omega
 refine vu (motive:=fun r=>SOk p nb r.1/\XOk p nb m r.2) s m x ?_ ?_ ?_ ?_ ?_ ?_ ?_ ?_ ?_ ?_ ?_ ?_ ?_ ?_ ?_ ?_ ?_ ?_ ?_ ?_
 ·intro c
  unfold mu0
  refine ⟨S,?_⟩
  unfold zcm
  rw [hP]
  split
  ·exact ⟨.inl ⟨(by show (0:Int)<=1;decide),(by show (1:Int)<=3;decide)⟩,X.regs,X.ip,fun e=>by dsimp only at e;omega,fun _=>.inl rfl,fun e=>(by cases e),fun e=>(by cases e),fun e=>(by cases e),fun _ _=>X.bin (by omega) (by omega),fun e=>by dsimp only at e;omega,X.buf⟩
  split
  ·exact X
  rename_i hlt
  have hlt:x.IP<((wM p m).length:Int):=by omega
  split
  ·exact X.move (by omega) (.inr (.inr (.inl rfl))) rfl rfl X.buf X.ip (fun _=>hlt)
  split
  ·exact X.move (by omega) (.inr (.inr (.inr (.inl ⟨by show (20:Int)<=20;decide,by show (20:Int)<=23;decide⟩)))) rfl rfl X.buf X.ip (fun _=>hlt)
  split
  ·exact X.move (by omega) (.inr (.inr (.inr (.inr (.inl rfl))))) rfl rfl X.buf X.ip (fun _=>hlt)
  split
  ·exact X.set hp (by omega) hlt _ _
  ·exact X.set hp (by omega) hlt _ _
 ·intro c
  unfold mu1
  refine ⟨S,?_⟩
  split
  ·rcases X.ret (.inl c) with e | e
   ·exact X.move (by omega) (.inr (.inl e)) rfl rfl X.buf X.ip (fun e2=>by dsimp only at e2;omega)
   ·exact X.move (by omega) (.inr (.inr (.inr (.inl (by dsimp only;omega))))) rfl rfl X.buf X.ip (fun e2=>X.op (.inr ⟨.inl c,e⟩))
  ·exact ⟨.inl ⟨(by show (0:Int)<=3;decide),(by show (3:Int)<=3;decide)⟩,X.regs,X.ip,fun e=>X.op (.inr ⟨.inl c,by dsimp only at e;omega⟩),fun _=>X.ret (.inl c),fun e=>(by cases e),fun e=>(by cases e),fun e=>(by cases e),fun _ _=>X.bin (by omega) (by omega),
    fun _=>⟨⟨fun e=>absurd e (by show ¬(2:Int)=1;decide),fun e=>(by cases e),fun e=>(by cases e),fun e=>(by cases e),fun e=>(by cases e)⟩,fun e=>(by cases e),by show (2:Int)≠1;decide⟩,by dsimp only;rw [zHT];omega⟩
 ·intro c
  unfold mu2
  exact ⟨S.keep rfl rfl rfl,X.move (by omega) (.inl rfl) rfl rfl X.buf X.ip (fun e=>absurd e (by show ¬((10:Int)<=0/\(0:Int)<=30);decide))⟩
 ·intro c
  unfold mu3
  obtain ⟨g1,g2,g3⟩:=X.g (.inl c)
  obtain ⟨r1,r2,r3⟩:=zqN h S g1 g2
  refine ⟨r1,?_⟩
  dsimp only
  split
  ·exact ⟨.inl ⟨(by show (0:Int)<=1;decide),(by show (1:Int)<=3;decide)⟩,X.regs,X.ip,fun e=>X.op (.inr ⟨.inr c,by dsimp only at e;omega⟩),fun _=>X.ret (.inr c),fun e=>(by cases e),fun e=>(by cases e),fun e=>(by cases e),fun _ _=>X.bin (by omega) (by omega),fun e=>by dsimp only at e;omega,X.buf⟩
  ·exact ⟨X.pc,X.regs,X.ip,X.op,X.ret,fun e=>by dsimp only at e;omega,fun e=>by dsimp only at e;omega,fun e=>by dsimp only at e;omega,X.bin,fun _=>⟨r2,r3,by rw [(Ux s x.G).2.2];exact g3⟩,X.buf⟩
 ·intro c
  unfold zmF
  exact ⟨S,X.set hp (by omega) (X.op (.inl (by omega))) _ _⟩
 ·intro c
  unfold zkr
  refine ⟨S,?_⟩
  split
  ·exact X.next hp (by omega) (X.op (.inl (by omega)))
  ·exact X.move (by omega) (.inr (.inr (.inr (.inl ⟨by show (20:Int)<=21;decide,by show (21:Int)<=23;decide⟩)))) rfl rfl X.buf X.ip (fun _=>X.op (.inl (by omega)))
 ·intro c
  unfold zjf
  refine ⟨S,?_⟩
  split
  ·exact X.move (by omega) (.inr (.inr (.inr (.inl ⟨by show (20:Int)<=23;decide,by show (23:Int)<=23;decide⟩)))) rfl rfl X.buf X.ip (fun _=>X.op (.inl (by omega)))
  ·exact X.move (by omega) (.inr (.inr (.inr (.inl ⟨by show (20:Int)<=22;decide,by show (22:Int)<=23;decide⟩)))) rfl rfl X.buf X.ip (fun _=>X.op (.inl (by omega)))
 ·intro c
  unfold zjG
  have hi:=X.op (.inl (by omega))
  refine ⟨S,?_⟩
  rw [hP]
  split
  ·exact ⟨.inl ⟨(by show (0:Int)<=1;decide),(by show (1:Int)<=3;decide)⟩,X.regs,X.ip,fun e=>hi,fun _=>.inr rfl,fun e=>(by cases e),fun e=>(by cases e),fun e=>(by cases e),fun _ _=>X.bin (by omega) (by omega),fun e=>by dsimp only at e;omega,X.buf⟩
  ·exact X.move (by omega) (.inr (.inr (.inr (.inl ⟨by show (20:Int)<=23;decide,by show (23:Int)<=23;decide⟩)))) rfl rfl (by simp;omega) X.ip (fun _=>hi)
 ·intro c
  unfold zme
  exact ⟨S.keep rfl rfl rfl,X.next hp (by omega) (X.op (.inl (by omega)))⟩
 ·intro c
  unfold zfi
  have hi:=X.op (.inl (by omega))
  split
  ·split
   ·exact ⟨S.keep rfl rfl rfl,X.set hp (by omega) hi _ _⟩
   ·exact ⟨S,X.next hp (by omega) hi⟩
  ·exact ⟨S,X.move (by omega) (.inr (.inr (.inr (.inr (.inr (.inl rfl)))))) rfl rfl X.buf X.ip (fun e=>absurd e (by show ¬((10:Int)<=31/\(31:Int)<=30);decide))⟩
 ·intro c
  unfold zjL
  refine ⟨S.keep rfl rfl rfl,?_⟩
  rw [hP]
  split
  ·exact ⟨.inr (.inr (.inr ⟨(by show (30:Int)<=32;decide),(by show (32:Int)<=39;decide)⟩)),X.regs,X.ip,fun e=>by dsimp only at e;omega,fun e=>by dsimp only at e;omega,fun _=>zAe,fun e=>(by cases e),fun e=>(by cases e),fun _ _=>X.bin (by omega) (by omega),fun e=>by dsimp only at e;omega,X.buf⟩
  ·exact X.move (by omega) (.inl rfl) rfl rfl X.buf X.ip (fun e=>absurd e (by show ¬((10:Int)<=0/\(0:Int)<=30);decide))
 ·intro c
  unfold zj8
  have C:=X.c32 c
  obtain ⟨b1,b2,b3,b4,b5,b6⟩:=zxL h S (.inl rfl) C.k C.h C.n C.v C.y C.o
  refine ⟨b1,?_⟩
  dsimp only
  split
  ·rename_i e1
   exact ⟨.inr (.inr (.inr ⟨(by show (30:Int)<=33;decide),(by show (33:Int)<=39;decide)⟩)),X.regs,X.ip,fun e=>by dsimp only at e;omega,fun e=>by dsimp only at e;omega,fun e=>(by cases e),fun _=>b6 e1,fun e=>(by cases e),fun e=>absurd rfl e,fun e=>by dsimp only at e;omega,X.buf⟩
  split
  ·exact X.move (by omega) (.inl rfl) rfl rfl X.buf X.ip (fun e=>absurd e (by show ¬((10:Int)<=0/\(0:Int)<=30);decide))
  ·rename_i e1 e2
   exact ⟨X.pc,X.regs,X.ip,X.op,X.ret,fun _=>⟨b2,b3,b4,(b5 e1 e2).1,(b5 e1 e2).2,e1⟩,fun e=>by dsimp only at e;omega,fun e=>by dsimp only at e;omega,X.bin,fun e=>by dsimp only at e;omega,X.buf⟩
 ·intro c
  unfold zmI
  have B:=X.b33 c
  refine ⟨S.keep rfl rfl (by simp),?_⟩
  rw [hP]
  exact ⟨.inr (.inr (.inr ⟨(by show (30:Int)<=34;decide),(by show (34:Int)<=39;decide)⟩)),X.regs,X.ip,fun e=>by dsimp only at e;omega,fun e=>by dsimp only at e;omega,fun e=>(by cases e),fun e=>(by cases e),fun _=>zy1 B,fun _ e=>absurd rfl e,fun e=>by dsimp only at e;omega,X.buf⟩
 ·intro c
  unfold zj4
  have C:=X.c34 c
  obtain ⟨b1,b2,b3,b4,b5,b6⟩:=zuy h S (.inr rfl) C.k C.h C.n C.x C.v
  refine ⟨b1,?_⟩
  dsimp only
  split
  ·exact ⟨.inr (.inr (.inr ⟨(by show (30:Int)<=35;decide),(by show (35:Int)<=39;decide)⟩)),X.regs,X.ip,fun e=>by dsimp only at e;omega,fun e=>by dsimp only at e;omega,fun e=>(by cases e),fun e=>(by cases e),fun e=>(by cases e),fun _ _=>rfl,fun e=>by dsimp only at e;omega,X.buf⟩
  ·exact ⟨X.pc,X.regs,X.ip,X.op,X.ret,fun e=>by dsimp only at e;omega,fun e=>by dsimp only at e;omega,fun _=>⟨b2,b3,b4,b5,b6⟩,X.bin,fun e=>by dsimp only at e;omega,X.buf⟩
 ·intro c
  unfold zjh
  refine ⟨S,?_⟩
  dsimp only
  split
  ·exact X.move (by omega) (.inl rfl) rfl rfl X.buf X.ip (fun e=>absurd e (by show ¬((10:Int)<=0/\(0:Int)<=30);decide))
  ·exact X.move (by omega) (by simp) rfl rfl X.buf X.ip (fun e=>absurd e (nop 36 (by omega)))
 ·intro c
  unfold zjH
  refine ⟨S,?_⟩
  dsimp only
  split
  ·rcases zg2 s (wc (x.Slot+1)) with e | e<;>rw [e]
   ·exact X.move (by omega) (by simp) rfl rfl X.buf X.ip (fun e=>absurd e (nop 36 (by omega)))
   ·exact X.move (by omega) (by simp) rfl rfl X.buf X.ip (fun e=>absurd e (nop 38 (by omega)))
  ·exact ⟨.inr (.inr (.inr ⟨(by show (30:Int)<=37;decide),(by show (37:Int)<=39;decide)⟩)),X.regs,X.ip,fun e=>by dsimp only at e;omega,fun e=>by dsimp only at e;omega,fun e=>(by cases e),fun e=>(by cases e),fun e=>(by cases e),fun _ _=>X.bin (by omega) (by omega),
    fun _=>⟨⟨fun e=>absurd e (by show ¬(3:Int)=1;decide),fun e=>(by cases e),fun e=>(by cases e),fun e=>(by cases e),fun e=>(by cases e)⟩,fun e=>(by cases e),by show (3:Int)≠1;decide⟩,X.buf⟩
 ·intro c
  unfold zhK
  obtain ⟨g1,g2,g3⟩:=X.g (.inr c)
  obtain ⟨r1,r2,r3⟩:=zqN h S g1 g2
  refine ⟨r1,?_⟩
  dsimp only
  split
  ·rcases zg2 s x.Slot with e | e<;>rw [e]
   ·exact X.move (by omega) (by simp) rfl rfl X.buf X.ip (fun e=>absurd e (nop 36 (by omega)))
   ·exact X.move (by omega) (by simp) rfl rfl X.buf X.ip (fun e=>absurd e (nop 38 (by omega)))
  ·exact ⟨X.pc,X.regs,X.ip,X.op,X.ret,fun e=>by dsimp only at e;omega,fun e=>by dsimp only at e;omega,fun e=>by dsimp only at e;omega,X.bin,fun _=>⟨r2,r3,by rw [(Ux s x.G).2.2];exact g3⟩,X.buf⟩
 ·intro c
  unfold zmM
  exact ⟨S.keep rfl rfl rfl,X.move (by omega) (by simp) rfl rfl X.buf X.ip (fun e=>absurd e (nop 39 (by omega)))⟩
 ·intro c
  unfold zn0
  exact ⟨S.keep rfl rfl rfl,X.move (by omega) (by simp) rfl rfl X.buf X.ip (fun e=>absurd e (nop 35 (by omega)))⟩
 ·exact ⟨S,X⟩
end
end Go.Pe.G
namespace Go.Pe.G
open Go.Pe
noncomputable section
structure Yq (s:za):Prop where
 m:s.M.length<1000000
 bins:s.Bins.length<1000000
 bin:∀x∈s.Bins,x.length<1000000
 acks:s.Acks.length<1000000
 bal:s.L.Bal.length<1000000
 ws:s.Ws.length<1000000
 w:∀x∈s.Ws,x.Batch.length<1000000
 ms:s.Ms.length<1000000
 mu:∀x∈s.Ms,x.Regs.length<1000000/\x.Buf.length<1000000/\x.Batch.length<1000000
 objs:s.H.Objs.length<1000000
 obj:∀x∈s.H.Objs,x.length<1000000
 pobjs:s.P.H.Objs.length<1000000
 pobj:∀x∈s.P.H.Objs,x.length<1000000
 regs:s.P.Regs.length<1000000
 reg:∀x∈s.P.Regs,x.length<1000000
 progs:s.P.Progs.length<1000000
 prog:∀x∈s.P.Progs,x.length<1000000
 picks:s.P.Picks.length<1000000
theorem za8 (m:List (BitVec 64)) (c:zE):(zn m c).1.length=m.length:=by
 unfold zn sw
 split
 ·rfl
 split
 ·rfl
 split
 ·split<;>simp [ZS]
 ·dsimp only;split<;>simp [ZS]
theorem zik (m:List (BitVec 64)) (d:zd):(yE m d).1.length=m.length:=by
 unfold yE
 split
 ·rfl
 split
 ·rfl
 split
 ·rfl
 split<;>simp [ZS]
theorem ziA (s:za) (g:zu):∃m b t w f,(zx s g).1={s with M:=m,Bins:=b,T:=t,Work:=w,Flag:=f}/\m.length=s.M.length/\b.length=s.Bins.length /\
  (∀x∈b,x∈s.Bins\/x=[g.Obj])/\(t=s.T\/t=(vw s.T g.Obj).1)/\(w=s.Work\/w=wc (s.Work+1)\/w=wc (s.Work-1)):=by
 unfold zx
 split
 ·exact ⟨s.M,s.Bins,s.T,s.Work,s.Flag,rfl,rfl,rfl,fun x h=>.inl h,.inl rfl,.inl rfl⟩
 split
 ·exact ⟨_,s.Bins,s.T,s.Work,s.Flag,rfl,za8 _ _,rfl,fun x h=>.inl h,.inl rfl,.inl rfl⟩
 split
 ·refine ⟨s.M,_,s.T,s.Work,s.Flag,rfl,rfl,by simp,fun x h=>?_,.inl rfl,.inl rfl⟩
  rcases zHB h with h | h
  ·exact .inl h
  ·exact .inr h
 split
 ·exact ⟨_,s.Bins,s.T,s.Work,s.Flag,rfl,za8 _ _,rfl,fun x h=>.inl h,.inl rfl,.inl rfl⟩
 split
 ·exact ⟨s.M,s.Bins,s.T,s.Work,true,rfl,rfl,rfl,fun x h=>.inl h,.inl rfl,.inl rfl⟩
 split
 ·exact ⟨_,s.Bins,s.T,s.Work,s.Flag,rfl,zik _ _,rfl,fun x h=>.inl h,.inl rfl,.inl rfl⟩
 split
 ·exact ⟨s.M,s.Bins,s.T,_,s.Flag,rfl,rfl,rfl,fun x h=>.inl h,.inl rfl,.inr (.inr rfl)⟩
 split
 ·exact ⟨s.M,s.Bins,_,s.Work,s.Flag,rfl,rfl,rfl,fun x h=>.inl h,.inr rfl,.inl rfl⟩
 ·exact ⟨s.M,s.Bins,s.T,_,s.Flag,rfl,rfl,rfl,fun x h=>.inl h,.inl rfl,.inr (.inl rfl)⟩
theorem zB0 {p:zb}(h:zB p):Yq (yv p):=by
 have S:=zAf h
 have hb:=zcJ h
 have hg:=zlr h
 have hn:=h.n
 have hm:=h.mt
 have hw:=h.wk
 have hs:=h.slots
 have hrl:=h.regs
 have hpl:=h.progs
 have hobj:∀o∈p.H.Objs,o.length<1000000:=fun o ho=>by have:=(h.objs o ho).1;omega
 have hreg:∀r∈p.Regs,r.length<1000000:=fun r hr=>by have:=(h.reg r hr).1;omega
 refine ⟨by have:=S.mem;omega,by rw [S.bins];omega,fun x hx=>?_,?_,?_,?_,fun x hx=>?_,?_,fun x hx=>?_,by show p.H.Objs.length<_;omega,hobj,by show p.H.Objs.length<_;omega,hobj,by show p.Regs.length<_;omega,hreg,by show p.Progs.length<_;omega,fun x hx=>?_,?_⟩
 ·have hx:x∈[[]]++yW p++List.replicate (zR p-(yW p).length) []:=hx
  rcases zG8.1 hx with hx | hx
  ·rcases zG8.1 hx with hx | hx
   ·simp at hx;subst hx;simp
   ·have:=zma _ _ _ _ hx;omega
  ·have:=(List.mem_replicate.1 hx).2;subst this;simp
 ·show (List.replicate p.Mutators.toNat (0:Int)).length<_;simp;omega
 ·show (List.replicate p.Mutators.toNat (0:Int)).length<_;simp;omega
 ·show ((List.range p.Workers.toNat).map (uw p)).length<_;simp;omega
 ·have hx:x∈(List.range p.Workers.toNat).map (uw p):=hx
  obtain ⟨i,_,rfl⟩:=zG2.1 hx
  simp [uw]
 ·show (p.Regs.map vh).length<_;simp;omega
 ·have hx:x∈p.Regs.map vh:=hx
  obtain ⟨r,hr,rfl⟩:=zG2.1 hx
  exact ⟨hreg r hr,by simp [vh],by simp [vh]⟩
 ·obtain ⟨i,hi⟩:=List.getElem?_of_mem hx
  have hlt:=(zGX.1 hi).1
  have:=(h.prog i _ x (zGN (show i<p.Regs.length from (show p.Progs.length=p.Regs.length by omega)▸hlt)) hi).1
  omega
 ·show p.Picks.length<_;rw [h.picks];simp
end
end Go.Pe.G
namespace Go.Pe.G
open Go.Pe
noncomputable section
def xB (s:za):za :=
 if s.Done=true then s
 else if s.D.PC=0 then {s with Flag:=false,D:={s.D with PC:=1}}
 else if s.D.PC=1 then (if s.Work=0 then {s with D:={s.D with PC:=2}} else s)
 else if s.D.PC=2 then {s with Epoch:=wc (s.Epoch+1),D:=⟨if s.Ms.length=0 then 4 else 3,0⟩}
 else if s.D.PC=3 then (if s.Acks.getD s.D.I.toNat 0<s.Epoch then s else {s with D:=⟨if wc (s.D.I+1)=(s.Ms.length:Int) then 4 else 3,wc (s.D.I+1)⟩})
 else if s.D.PC=4 then (if s.Work=0 then {s with D:={s.D with PC:=5}} else {s with Restarts:=wc (s.Restarts+1),D:={s.D with PC:=0}})
 else if s.D.PC=5 then (if s.Flag=true then {s with Restarts:=wc (s.Restarts+1),D:={s.D with PC:=0}} else {s with D:={s.D with PC:=6}})
 else if s.D.PC=6 then {s with Done:=true}
 else s
structure HOk (p:zb) (h:zo):Prop where
 slots:h.Slots=p.H.Slots
 n:(p.H.Objs.length:Int)<=(h.Objs.length:Int)/\(h.Objs.length:Int)<=p.Most
 objs:∀o∈h.Objs,(o.length:Int)=h.Slots/\∀v∈o,0<=v/\v<=(h.Objs.length:Int)
structure EOk (p:zb) (nb:Nat) (s:za):Prop where
 S:SOk p nb s
 wl:(s.Ws.length:Int)=p.Workers
 ml:(s.Ms.length:Int)=p.Mutators
 al:s.Acks.length=s.Ms.length
 W:∀(i:Nat) x,s.Ws[i]? =some x->WOk p nb ((i:Int)+1) x
 X:∀(i:Nat) x,s.Ms[i]? =some x->XOk p nb ((i:Int)+1) x
 H:HOk p s.H
 D:(0<=s.D.PC/\s.D.PC<=6)/\(s.D.PC=3->0<=s.D.I/\s.D.I<(s.Ms.length:Int))
 small:Yq s
theorem zt9 {p:zb}(h:zB p) (m:Int):((wM p m).length:Int)<=64:=by
 unfold wM
 have hr:=h.regs
 have hp:=h.progs
 rw [zGP]
 rcases zHk (m-1).toNat p.Progs.length with hl | hl
 ·rw [zGN hl]
  have hl2:(m-1).toNat<p.Regs.length:=by omega
  have:=(h.prog (m-1).toNat _ _ (zGN hl2) (zGN hl)).1
  show ((p.Progs[(m-1).toNat]).length:Int)<=64
  omega
 ·rw [zHQ hl];show (([]:List zm).length:Int)<=64;simp
theorem zB7 {p:zb}(h:zB p):EOk p (zR p+1) (yv p):=by
 have hw:=h.wk
 have hm:=h.mt
 have hr:=h.regs
 have hn:=h.n
 have hmo:=h.most
 have hb:=h.buf
 refine ⟨zAf h,?_,?_,?_,fun i x hx=>?_,fun i x hx=>?_,⟨rfl,⟨zHv _,hmo.1⟩,h.objs⟩,⟨⟨by show (0:Int)<=0;decide,by show (0:Int)<=6;decide⟩,fun e=>absurd e (by show ¬(0:Int)=3;decide)⟩,zB0 h⟩
 ·show (((List.range p.Workers.toNat).map (uw p)).length:Int)=_
  rw [zHK,List.length_range];omega
 ·show ((p.Regs.map vh).length:Int)=_
  rw [zHK];exact hr
 ·show (List.replicate p.Mutators.toNat (0:Int)).length=(p.Regs.map vh).length
  rw [zHC,zHK];omega
 ·have hx:((List.range p.Workers.toNat).map (uw p))[i]? =some x:=hx
  rw [zHg] at hx
  rcases zHk i p.Workers.toNat with hl | hl
  ·rw [List.getElem?_range hl] at hx
   injection hx with hx
   subst hx
   exact ⟨⟨by show (0:Int)<=0;decide,by show (0:Int)<=9;decide⟩,by show 1<=(i:Int)+1/\(i:Int)+1<=p.Workers;omega,fun _=>⟨rfl,rfl,rfl⟩,fun e=>(by cases e),fun e=>(by cases e),fun e=>(by cases e),fun e=>(by cases e),fun e=>(by cases e)⟩
  ·rw [zHQ (by rw [List.length_range];exact hl)] at hx;cases hx
 ·have hx:(p.Regs.map vh)[i]? =some x:=hx
  rw [zHg] at hx
  cases hq:p.Regs[i]? with
  | none=>rw [hq] at hx;cases hx
  | some r =>
   rw [hq] at hx
   injection hx with hx
   subst hx
   refine ⟨.inl ⟨by show (0:Int)<=0;decide,by show (0:Int)<=3;decide⟩,?_,⟨by show (0:Int)<=0;decide,by show (0:Int)<=_;omega⟩,fun e=>absurd e ?_,fun e=>absurd e ?_,fun e=>(by cases e),fun e=>(by cases e),fun e=>(by cases e),fun _ _=>rfl,fun e=>absurd e ?_,by show (0:Int)<=p.Buf;omega⟩
   ·show r.length=zgd p ((i:Int)+1)
    unfold zgd
    rw [show ((i:Int)+1-1).toNat=i by omega,zGP,hq];rfl
   ·intro e;simp [vh] at e
   ·intro e;simp [vh] at e
   ·intro e;simp [vh] at e
theorem zrp {s:za}(h:Yq s) (b:Int):(W1 s b).length<1000000:=by
 unfold W1
 rw [zGP]
 cases hq:s.Bins[b.toNat]? with
 | none=>simp
 | some l=>exact h.bin l (zGT hq)
theorem zv6 (l:zk) (w:Int):(zcx l w).Bal.length=l.Bal.length:=by unfold zcx;split<;>simp
structure Wz (s s':za):Prop where
 P:s'.P=s.P
 m:s'.M.length=s.M.length
 bl:s'.Bins.length=s.Bins.length
 b:∀l∈s'.Bins,l∈s.Bins\/l.length<=1
 bal:s'.L.Bal.length=s.L.Bal.length
 ac:s'.Acks.length=s.Acks.length
 ws:s'.Ws=s.Ws
 ms:s'.Ms=s.Ms
 done:s'.Done=s.Done
 d:s'.D=s.D
theorem Wz.refl (s:za):Wz s s:=⟨rfl,rfl,rfl,fun l h=>.inl h,rfl,rfl,rfl,rfl,rfl,rfl⟩
theorem zcP (s:za) (g:zu):Wz s (zx s g).1/\(zx s g).1.H=s.H:=by
 obtain ⟨m,b,t,w,f,e,h1,h2,h3,_,_⟩:=ziA s g
 rw [e]
 exact ⟨⟨rfl,h1,h2,fun l hl=>(h3 l hl).imp id (fun e=>by rw [e];simp),rfl,rfl,rfl,rfl,rfl,rfl⟩,rfl⟩
theorem zzS {s:za}(b:Nat):∀l∈s.Bins.set b [],l∈s.Bins\/l.length<=1:=fun l hl=>(zHB hl).imp id (fun e=>by rw [e];simp)
theorem zvK (s:za) (w:Int) (x:zh):Wz s (zp s w x).1/\(zp s w x).1.H=s.H:=by
 unfold zp
 split
 ·exact ⟨⟨rfl,(zmL _ _).1,rfl,fun l h=>.inl h,rfl,rfl,rfl,rfl,rfl,rfl⟩,rfl⟩
 split
 ·exact ⟨⟨rfl,za8 _ _,rfl,fun l h=>.inl h,rfl,rfl,rfl,rfl,rfl,rfl⟩,rfl⟩
 split
 ·exact ⟨⟨rfl,rfl,by simp,zzS _,rfl,rfl,rfl,rfl,rfl,rfl⟩,rfl⟩
 split
 ·exact ⟨⟨rfl,za8 _ _,rfl,fun l h=>.inl h,rfl,rfl,rfl,rfl,rfl,rfl⟩,rfl⟩
 split
 ·exact ⟨Wz.refl s,rfl⟩
 split
 ·exact zcP s x.G
 split
 ·exact ⟨Wz.refl s,rfl⟩
 split
 ·exact ⟨⟨rfl,rfl,rfl,fun l h=>.inl h,zv6 _ _,rfl,rfl,rfl,rfl,rfl⟩,rfl⟩
 split
 ·exact ⟨⟨rfl,rfl,rfl,fun l h=>.inl h,rfl,rfl,rfl,rfl,rfl,rfl⟩,rfl⟩
 ·exact ⟨Wz.refl s,rfl⟩
theorem zy4 (p:zb) (w:Int) (x:zh):(Yo p w x).Batch=x.Batch:=by unfold Yo;split<;>rfl
theorem zBb {s:za}(h:Yq s) (w:Int) {x:zh}(hx:x.Batch.length<1000000):(zp s w x).2.Batch.length<1000000:=by
 unfold zp
 split
 ·dsimp only
  split
  ·exact hx
  split
  ·rw [zy4];exact hx
  ·exact hx
 split
 ·dsimp only
  split
  ·exact hx
  split<;>exact hx
 split
 ·exact zrp h _
 split
 ·dsimp only
  split<;>exact hx
 split
 ·dsimp only
  split<;>exact hx
 split
 ·dsimp only
  split<;>exact hx
 split
 ·dsimp only
  cases hb:x.Batch with
  | nil=>show x.Batch.length<_;exact hx
  | cons o l=>rw [hb] at hx;show l.length<_;simp at hx;omega
 split
 ·exact hx
 split
 ·exact hx
 ·exact hx
theorem zAn (l:zk) (w p:Int):(zbR l w p).Bal.length=l.Bal.length:=by unfold zbR;simp
theorem zCH (l:zk) (w n:Int):(zcq l w n).1.Bal.length=l.Bal.length:=by unfold zcq;split<;>simp
theorem zxy (s:za) (m:Int) (x:zc):Wz s (zA s m x).1:=by
 have q:∀s':za,s'.P=s.P->s'.M=s.M->s'.Bins=s.Bins->s'.L.Bal.length=s.L.Bal.length->s'.Acks.length=s.Acks.length->s'.Ws=s.Ws->s'.Ms=s.Ms->s'.Done=s.Done->s'.D=s.D->Wz s s' :=
  fun s' a b c d e f g h i=>⟨a,by rw [b],by rw [c],fun l hl=>.inl (c▸hl),d,e,f,g,h,i⟩
 refine vu (motive:=fun r=>Wz s r.1) s m x ?_ ?_ ?_ ?_ ?_ ?_ ?_ ?_ ?_ ?_ ?_ ?_ ?_ ?_ ?_ ?_ ?_ ?_ ?_ ?_
 ·intro c
  unfold mu0
  exact Wz.refl s
 ·intro c
  unfold mu1
  exact Wz.refl s
 ·intro c
  unfold mu2
  exact q _ rfl rfl rfl rfl (by simp) rfl rfl rfl rfl
 ·intro c
  unfold mu3
  exact (zcP s x.G).1
 ·intro c
  unfold zmF
  exact Wz.refl s
 ·intro c
  unfold zkr
  exact Wz.refl s
 ·intro c
  unfold zjf
  exact Wz.refl s
 ·intro c
  unfold zjG
  exact Wz.refl s
 ·intro c
  unfold zme
  exact q _ rfl rfl rfl rfl rfl rfl rfl rfl rfl
 ·intro c
  unfold zfi
  split
  ·split
   ·exact q _ rfl rfl rfl (zAn _ _ _) rfl rfl rfl rfl rfl
   ·exact Wz.refl s
  ·exact Wz.refl s
 ·intro c
  unfold zjL
  exact q _ rfl rfl rfl (zCH _ _ _) rfl rfl rfl rfl rfl
 ·intro c
  unfold zj8
  exact ⟨rfl,za8 _ _,rfl,fun l h=>.inl h,rfl,rfl,rfl,rfl,rfl,rfl⟩
 ·intro c
  unfold zmI
  exact ⟨rfl,rfl,by simp,zzS _,rfl,rfl,rfl,rfl,rfl,rfl⟩
 ·intro c
  unfold zj4
  exact ⟨rfl,za8 _ _,rfl,fun l h=>.inl h,rfl,rfl,rfl,rfl,rfl,rfl⟩
 ·intro c
  unfold zjh
  exact Wz.refl s
 ·intro c
  unfold zjH
  exact Wz.refl s
 ·intro c
  unfold zhK
  exact (zcP s x.G).1
 ·intro c
  unfold zmM
  exact q _ rfl rfl rfl (zv6 _ _) rfl rfl rfl rfl rfl
 ·intro c
  unfold zn0
  exact q _ rfl rfl rfl rfl rfl rfl rfl rfl rfl
 ·exact Wz.refl s
theorem HOk.sm {p:zb}(hp:zB p) {h:zo}(H:HOk p h):h.Objs.length<1000000/\∀x∈h.Objs,x.length<1000000:=by
 have h1:=H.n
 have h2:=hp.most
 have h3:=hp.n
 have h4:=hp.slots
 have h5:=H.slots
 exact ⟨by omega,fun x hx=>by have:=(H.objs x hx).1;omega⟩
theorem Yq.turn {p:zb}(hp:zB p) {s s':za}(h:Yq s) (T:Wz s s') (H:HOk p s'.H):Yq s':=by
 have hh:=H.sm hp
 refine ⟨by rw [T.m];exact h.m,by rw [T.bl];exact h.bins,fun x hx=>?_,by rw [T.ac];exact h.acks,by rw [T.bal];exact h.bal,by rw [T.ws];exact h.ws,by rw [T.ws];exact h.w,by rw [T.ms];exact h.ms,by rw [T.ms];exact h.mu,hh.1,hh.2,by rw [T.P];exact h.pobjs,by rw [T.P];exact h.pobj,by rw [T.P];exact h.regs,by rw [T.P];exact h.reg,by rw [T.P];exact h.progs,by rw [T.P];exact h.prog,by rw [T.P];exact h.picks⟩
 rcases T.b x hx with h' | h'
 ·exact h.bin x h'
 ·omega
theorem Yq.setW {s:za}(h:Yq s) {i:Nat}{x:zh}(hx:x.Batch.length<1000000):Yq {s with Ws:=s.Ws.set i x} :=
 ⟨h.m,h.bins,h.bin,h.acks,h.bal,by simp only [zHh];exact h.ws,fun y hy=>by
  rcases zHB hy with hy | rfl
  ·exact h.w y hy
  ·exact hx,h.ms,h.mu,h.objs,h.obj,h.pobjs,h.pobj,h.regs,h.reg,h.progs,h.prog,h.picks⟩
theorem Yq.setM {s:za}(h:Yq s) {i:Nat}{x:zc}(hx:x.Regs.length<1000000/\x.Buf.length<1000000/\x.Batch.length<1000000):Yq {s with Ms:=s.Ms.set i x} :=
 ⟨h.m,h.bins,h.bin,h.acks,h.bal,h.ws,h.w,by simp only [zHh];exact h.ms,fun y hy=>by
  rcases zHB hy with hy | rfl
  ·exact h.mu y hy
  ·exact hx,h.objs,h.obj,h.pobjs,h.pobj,h.regs,h.reg,h.progs,h.prog,h.picks⟩
theorem zzQ {α:Type}{l:List α}{i j:Nat}{x y:α}(h:(l.set i x)[j]? =some y):(j=i/\y=x)\/l[j]? =some y:=by
 rw [zHx] at h
 split at h
 ·rename_i e
  split at h
  ·injection h with h;exact .inl ⟨e.symm,h.symm⟩
  ·cases h
 ·exact .inr h
theorem zrG {p:zb}{nb:Nat}{s:za}(h:zB p) (E:EOk p nb s) (w:Int):EOk p nb (z9 s w):=by
 unfold z9
 split
 ·exact E
 rename_i hc
 cases hx:s.Ws[(w-1).toNat]? with
 | none=>exact E
 | some x =>
  have hw1: ¬w<1:=fun e=>hc (.inr (.inl e))
  have hw2: ¬(s.Ws.length:Int)<w:=fun e=>hc (.inr (.inr e))
  have hwl:=E.wl
  have ei:(((w-1).toNat:Nat):Int)+1=w:=by omega
  have hW:=E.W _ x hx
  rw [ei] at hW
  obtain ⟨r1,r2⟩:=zz3 h (by omega) E.S hW
  obtain ⟨T,TH⟩:=zvK s w x
  have sm:Yq (zp s w x).1:=E.small.turn h T (by rw [TH];exact E.H)
  have hws:(zp s w x).1.Ws=s.Ws:=T.ws
  refine ⟨r1.keep rfl rfl rfl,?_,?_,?_,fun i y hy=>?_,fun i y hy=>?_,?_,?_,?_⟩
  ·show ((s.Ws.set _ _).length:Int)=_
   rw [zHh];exact hwl
  ·show ((zp s w x).1.Ms.length:Int)=_
   rw [T.ms];exact E.ml
  ·show (zp s w x).1.Acks.length=(zp s w x).1.Ms.length
   rw [T.ms,T.ac];exact E.al
  ·rcases zzQ hy with ⟨rfl,rfl⟩ | hy
   ·rw [ei];exact r2
   ·exact E.W i y hy
  ·have hy:(zp s w x).1.Ms[i]? =some y:=hy
   rw [T.ms] at hy
   exact E.X i y hy
  ·show HOk p (zp s w x).1.H
   rw [TH];exact E.H
  ·show (0<=(zp s w x).1.D.PC/\(zp s w x).1.D.PC<=6)/\((zp s w x).1.D.PC=3->0<=(zp s w x).1.D.I/\(zp s w x).1.D.I<((zp s w x).1.Ms.length:Int))
   rw [T.d,T.ms];exact E.D
  ·have:=sm.setW (i:=(w-1).toNat) (zBb E.small w (E.small.w x (zGT hx)))
   rw [hws] at this
   exact this
theorem zD9 {p:zb}{nb:Nat}{s:za}(h:zB p) (E:EOk p nb s):EOk p nb (xB s):=by
 have key:∀s':za,s'.P=s.P->s'.M=s.M->s'.Bins=s.Bins->s'.Ws=s.Ws->s'.Ms=s.Ms->s'.Acks=s.Acks->s'.H=s.H->s'.L=s.L->((0<=s'.D.PC/\s'.D.PC<=6)/\(s'.D.PC=3->0<=s'.D.I/\s'.D.I<(s'.Ms.length:Int)))->EOk p nb s':=by
  intro s' e1 e2 e3 e4 e5 e6 e7 e8 e9
  have q:=E.small
  refine ⟨E.S.keep e1 e2 (by rw [e3]),by rw [e4];exact E.wl,by rw [e5];exact E.ml,by rw [e5,e6];exact E.al,by rw [e4];exact E.W,by rw [e5];exact E.X,by rw [e7];exact E.H,e9,?_⟩
  exact ⟨by rw [e2];exact q.m,by rw [e3];exact q.bins,by rw [e3];exact q.bin,by rw [e6];exact q.acks,by rw [e8];exact q.bal,by rw [e4];exact q.ws,by rw [e4];exact q.w,by rw [e5];exact q.ms,by rw [e5];exact q.mu,by rw [e7];exact q.objs,by rw [e7];exact q.obj,by rw [e1];exact q.pobjs,by rw [e1];exact q.pobj,by rw [e1];exact q.regs,by rw [e1];exact q.reg,by rw [e1];exact q.progs,by rw [e1];exact q.prog,by rw [e1];exact q.picks⟩
 have hm:∀n:Int,0<=n/\n<=6->n≠3->∀i,(0<=(⟨n,i⟩:zw).PC/\(⟨n,i⟩:zw).PC<=6)/\((⟨n,i⟩:zw).PC=3->0<=(⟨n,i⟩:zw).I/\(⟨n,i⟩:zw).I<(s.Ms.length:Int)):=fun n h1 h2 i=>⟨h1,fun e=>absurd e h2⟩
 have hml:=E.ml
 have hmt:=h.mt
 unfold xB
 split
 ·exact E
 split
 ·exact key _ rfl rfl rfl rfl rfl rfl rfl rfl (hm 1 (by decide) (by decide) _)
 split
 ·split
  ·exact key _ rfl rfl rfl rfl rfl rfl rfl rfl (hm 2 (by decide) (by decide) _)
  ·exact E
 split
 ·refine key _ rfl rfl rfl rfl rfl rfl rfl rfl ?_
  dsimp only
  split
  ·exact hm 4 (by decide) (by decide) _
  ·exact ⟨by decide,fun _=>by omega⟩
 split
 ·rename_i c3
  have hi:=E.D.2 c3
  split
  ·exact E
  ·refine key _ rfl rfl rfl rfl rfl rfl rfl rfl ?_
   dsimp only
   have e:wc (s.D.I+1)=s.D.I+1:=xr (by omega) (by omega)
   rw [e]
   split
   ·exact hm 4 (by decide) (by decide) _
   ·exact ⟨by decide,fun _=>by omega⟩
 split
 ·split
  ·exact key _ rfl rfl rfl rfl rfl rfl rfl rfl (hm 5 (by decide) (by decide) _)
  ·exact key _ rfl rfl rfl rfl rfl rfl rfl rfl (hm 0 (by decide) (by decide) _)
 split
 ·split
  ·exact key _ rfl rfl rfl rfl rfl rfl rfl rfl (hm 0 (by decide) (by decide) _)
  ·exact key _ rfl rfl rfl rfl rfl rfl rfl rfl (hm 6 (by decide) (by decide) _)
 split
 ·exact key _ rfl rfl rfl rfl rfl rfl rfl rfl E.D
 ·exact E
theorem HOk.put {p:zb}{h:zo}(H:HOk p h) (o s v:Int):HOk p (U8 h o s v):=by
 unfold U8
 split
 ·rename_i c
  obtain ⟨c1,c2,c3⟩:=c
  unfold WO at c1
  simp only [zGM,decide_eq_true_eq] at c1
  refine ⟨H.slots,by simp only [zHh];exact H.n,fun l hl=>?_⟩
  simp only [zHh]
  rcases zHB hl with hl | rfl
  ·exact H.objs l hl
  ·have hm:zN h o∈h.Objs:=by
    unfold zN
    rw [zGP,zGN (show (o-1).toNat<h.Objs.length by omega)]
    exact zHi _
   obtain ⟨a,b⟩:=H.objs _ hm
   refine ⟨by rw [zHh];exact a,fun y hy=>?_⟩
   rcases zHB hy with hy | rfl
   ·exact b y hy
   ·exact ⟨c2,c3⟩
 ·exact H
theorem HOk.alloc {p:zb}(hp:zB p) {h:zo}(H:HOk p h) (hr:Xy h p.Most=true):HOk p (uk h):=by
 unfold Xy at hr
 simp only [zGM,decide_eq_true_eq] at hr
 have hs:=hp.slots
 have hsl:=H.slots
 have hn:=H.n
 unfold uk
 refine ⟨H.slots,by simp only [zGZ,zIx];omega,fun l hl=>?_⟩
 simp only [zGZ,zIx]
 rcases zG8.1 hl with hl | hl
 ·obtain ⟨a,b⟩:=H.objs l hl
  exact ⟨a,fun v hv=>by have:=b v hv;omega⟩
 ·rw [zHo.1 hl]
  refine ⟨by rw [zHC];omega,fun v hv=>?_⟩
  rw [(List.mem_replicate.1 hv).2];omega
theorem zF0 {p:zb}(hp:zB p) {s:za}(hP:s.P=p) (H:HOk p s.H) (m:Int) (x:zc):HOk p (zA s m x).1.H:=by
 refine vu (motive:=fun r=>HOk p r.1.H) s m x ?_ ?_ ?_ ?_ ?_ ?_ ?_ ?_ ?_ ?_ ?_ ?_ ?_ ?_ ?_ ?_ ?_ ?_ ?_ ?_
 ·intro c
  unfold mu0
  exact H
 ·intro c
  unfold mu1
  exact H
 ·intro c
  unfold mu2
  exact H
 ·intro c
  unfold mu3
  rw [(zcP s x.G).2];exact H
 ·intro c
  unfold zmF
  exact H
 ·intro c
  unfold zkr
  exact H
 ·intro c
  unfold zjf
  exact H
 ·intro c
  unfold zjG
  exact H
 ·intro c
  unfold zme
  exact H.put _ _ _
 ·intro c
  unfold zfi
  split
  ·split
   ·rename_i hr
    rw [hP] at hr
    exact H.alloc hp hr
   ·exact H
  ·exact H
 ·intro c
  unfold zjL
  exact H
 ·intro c
  unfold zj8
  exact H
 ·intro c
  unfold zmI
  exact H
 ·intro c
  unfold zj4
  exact H
 ·intro c
  unfold zjh
  exact H
 ·intro c
  unfold zjH
  exact H
 ·intro c
  unfold zhK
  rw [(zcP s x.G).2];exact H
 ·intro c
  unfold zmM
  exact H
 ·intro c
  unfold zn0
  exact H
 ·exact H
theorem zyS (s:za) (m:Int) (x:zc):(zcm s m x).Batch=x.Batch:=by
 unfold zcm
 repeat' split
 all_goals rfl
theorem zBY {s:za}(h:Yq s) (m:Int) {x:zc}(hx:x.Batch.length<1000000):(zA s m x).2.Batch.length<1000000:=by
 refine vu (motive:=fun r=>r.2.Batch.length<1000000) s m x ?_ ?_ ?_ ?_ ?_ ?_ ?_ ?_ ?_ ?_ ?_ ?_ ?_ ?_ ?_ ?_ ?_ ?_ ?_ ?_
 ·intro c
  unfold mu0
  dsimp only;rw [zyS];exact hx
 ·intro c
  unfold mu1
  dsimp only;split<;>exact hx
 ·intro c
  unfold mu2
  exact hx
 ·intro c
  unfold mu3
  dsimp only;split<;>exact hx
 ·intro c
  unfold zmF
  exact hx
 ·intro c
  unfold zkr
  dsimp only;split<;>exact hx
 ·intro c
  unfold zjf
  dsimp only;split<;>exact hx
 ·intro c
  unfold zjG
  dsimp only;split<;>exact hx
 ·intro c
  unfold zme
  exact hx
 ·intro c
  unfold zfi
  split
  ·split<;>exact hx
  ·exact hx
 ·intro c
  unfold zjL
  dsimp only;split<;>exact hx
 ·intro c
  unfold zj8
  dsimp only
  split
  ·exact hx
  split<;>exact hx
 ·intro c
  unfold zmI
  exact zrp h _
 ·intro c
  unfold zj4
  dsimp only;split<;>exact hx
 ·intro c
  unfold zjh
  dsimp only
  cases hb:x.Batch with
  | nil=>show ([]:List Int).length<1000000;simp
  | cons o l=>rw [hb] at hx;show l.length<_;simp at hx;omega
 ·intro c
  unfold zjH
  dsimp only;split<;>exact hx
 ·intro c
  unfold zhK
  dsimp only;split<;>exact hx
 ·intro c
  unfold zmM
  exact hx
 ·intro c
  unfold zn0
  exact hx
 ·exact hx
theorem zmq {p:zb}(h:zB p) (m:Int):zgd p m<1000000:=by
 unfold zgd
 rw [zGP]
 cases hq:p.Regs[(m-1).toNat]? with
 | none=>simp
 | some r=>have:=(h.reg r (zGT hq)).1;show r.length<_;omega
theorem zwa {p:zb}{nb:Nat}{s:za}(h:zB p) (E:EOk p nb s) (m:Int):EOk p nb (yu s m):=by
 unfold yu
 split
 ·exact E
 rename_i hc
 cases hx:s.Ms[(m-1).toNat]? with
 | none=>exact E
 | some x =>
  have hw1: ¬m<1:=fun e=>hc (.inr (.inl e))
  have hw2: ¬(s.Ms.length:Int)<m:=fun e=>hc (.inr (.inr e))
  have ei:(((m-1).toNat:Nat):Int)+1=m:=by omega
  have hX:=E.X _ x hx
  rw [ei] at hX
  obtain ⟨r1,r2⟩:=zCw h (zt9 h m) E.S hX
  have T:=zxy s m x
  have TH:=zF0 h E.S.P E.H m x
  have sm:Yq (zA s m x).1:=E.small.turn h T TH
  have hms:(zA s m x).1.Ms=s.Ms:=T.ms
  have hb:=h.buf
  refine ⟨r1.keep rfl rfl rfl,?_,?_,?_,fun i y hy=>?_,fun i y hy=>?_,TH,?_,?_⟩
  ·show ((zA s m x).1.Ws.length:Int)=_
   rw [T.ws];exact E.wl
  ·show ((s.Ms.set _ _).length:Int)=_
   rw [zHh];exact E.ml
  ·show (zA s m x).1.Acks.length=(s.Ms.set _ _).length
   rw [zHh,T.ac];exact E.al
  ·have hy:(zA s m x).1.Ws[i]? =some y:=hy
   rw [T.ws] at hy
   exact E.W i y hy
  ·rcases zzQ hy with ⟨rfl,rfl⟩ | hy
   ·rw [ei];exact r2
   ·exact E.X i y hy
  ·show (0<=(zA s m x).1.D.PC/\(zA s m x).1.D.PC<=6)/\((zA s m x).1.D.PC=3->0<=(zA s m x).1.D.I/\(zA s m x).1.D.I<((s.Ms.set _ _).length:Int))
   rw [T.d,zHh];exact E.D
  ·have q:=E.small.mu x (zGT hx)
   have q1:=r2.regs
   have q2:=r2.buf
   have q3:=zmq h m
   have:=sm.setM (i:=(m-1).toNat) (x:=(zA s m x).2) ⟨by omega,by omega,zBY E.small m q.2.2⟩
   rw [hms] at this
   exact this
end
end Go.Pe.G
namespace Go.Pe.G
open Go.Pe
noncomputable section
theorem zAc (t:zq) (o:Int):zlX t o=some (wW t o,()):=by
 rw [zxT,zqD,zGL]
 show (bif zX (t.Marks&&&t.Black) o then _ else _)=_
 unfold wW
 cases h:zX (t.Marks&&&t.Black) o with
 | true=>rfl
 | false =>
  rw [cond_false,zqD,zGL]
  show (bif zX t.Marks o then _ else _)=_
  cases h2:zX t.Marks o<;>rfl
theorem zpr (t:zq) (o:Int):U1 t o=some (wK t o,decide (wW t o=1),()):=by
 rw [zu4,zAc,zGL,yx]
 unfold wK
 by_cases h:wW t o=1
 ·rw [if_pos h,if_pos h,zfq,zGL,decide_eq_true h]
 ·rw [if_neg h,if_neg h,decide_eq_false h]
theorem zt4 {h:zo}(hl:h.Objs.length<1000000) (o s:Int):VE h o s=some (WO h o s,()):=by
 rw [zn4]
 simp only [zj]
 unfold WO
 by_cases h1:1<=o
 ·rw [if_pos h1]
  by_cases h2:o<=(h.Objs.length:Int)
  ·rw [if_pos h2]
   by_cases h3:0<=s
   ·have e:=zGN (show (o-1).toNat<h.Objs.length by omega)
    rw [if_pos h3,zV (a:=o-1) (by omega) (by omega),w8 (by omega),e,zGL,decide_eq_true h1,decide_eq_true h2,decide_eq_true h3]
    unfold zN
    rw [zGP,e];rfl
   ·rw [if_neg h3,decide_eq_false h3,Bool.and_false];rfl
  ·rw [if_neg h2,decide_eq_false h2,Bool.and_false];rfl
 ·rw [if_neg h1,decide_eq_false h1];rfl
theorem zrS {h:zo}(hl:h.Objs.length<1000000) (o s:Int):zdz h o s=some (yV h o s,WO h o s,()):=by
 rw [zwX,zt4 hl,zGL]
 unfold yV
 cases hs:WO h o s with
 | false=>rfl
 | true =>
  have hs':=hs
  unfold WO at hs'
  simp only [zGM,decide_eq_true_eq] at hs'
  obtain ⟨⟨⟨h1,h2⟩,h3⟩,h4⟩:=hs'
  have e:=zGN (show (o-1).toNat<h.Objs.length by omega)
  have es:zN h o=h.Objs[(o-1).toNat]'(by omega):=by unfold zN;rw [zGP,e];rfl
  rw [es] at h4
  have e2:=zGN (show s.toNat<(h.Objs[(o-1).toNat]'(by omega)).length by omega)
  simp only [zG1,cond_false,if_true]
  rw [zV (a:=o-1) (by omega) (by omega),w8 (by omega),e,zGL,w8 h3,e2,zGL,es,zGP,e2];rfl
theorem zjC (l:zk) (who:Int):Zw l who=some (decide (1<=who)&&decide (who<=(l.Bal.length:Int)),()):=by
 rw [zjN,zj]
 by_cases h1:1<=who
 ·rw [if_pos h1,decide_eq_true h1];rfl
 ·rw [if_neg h1,decide_eq_false h1];rfl
theorem zry {l:zk}(hl:l.Bal.length<1000000) (who:Int):UR l who=some (zcx l who,()):=by
 rw [zr0,xi,zjC,zGL]
 unfold zcx
 by_cases h:1<=who/\who<=(l.Bal.length:Int)
 ·rw [if_pos h,decide_eq_true h.1,decide_eq_true (show who<=((({l with Scanned:=wc (l.Scanned+1)}:zk).Bal.length:Nat):Int) from h.2)]
  have hn: ¬l.Bal.isEmpty=true:=by
   intro e
   have:l.Bal=[]:=by simpa using e
   rw [this] at h
   simp at h
   omega
  have hn:l.Bal.isEmpty=false:=by simpa using hn
  have e:=zGN (show (who-1).toNat<l.Bal.length by omega)
  rw [zHJ,zG1,cond_false,Ua]
  simp only [decide_true,cond_true,zkC (n:=(l.Bal.length:Int)) (by omega) (by omega),zGL,zHC,zHs,hn,cond_false,xi]
  rw [xr (a:=who-1) (by omega) (by omega),wS (l:=l.Bal) (by omega) (by omega),zGL,e,zGL,zqf,zGL,zGL,zGL,xi,zGP,e]
  rfl
 ·rw [if_neg h]
  have e:(decide (1<=who)&&decide (who<=((({l with Scanned:=wc (l.Scanned+1)}:zk).Bal.length:Nat):Int)))=false:=by
   by_cases h1:1<=who
   ·rw [decide_eq_true h1,decide_eq_false (fun e=>h ⟨h1,e⟩)];rfl
   ·rw [decide_eq_false h1];rfl
  rw [e];rfl
theorem zrZ {α:Type}(o:α) (l:List α):cut (o::l) 1 (((o::l).length:Nat):Int)=some l:=by
 unfold cut
 rw [decide_eq_true (show (0:Int)<=1 by decide),decide_eq_true (show (1:Int)<=(((o::l).length:Nat):Int) by simp;omega),decide_eq_true (zHv _)]
 simp
end
end Go.Pe.G
namespace Go.Pe.G
open Go.Pe
noncomputable section
theorem zsE {p:zb}(h:zB p) {m:Int}(hm:1<=m/\m<=p.Mutators):p.Progs[(m-1).toNat]? =some (wM p m):=by
 have:=h.progs
 have e:=zGN (show (m-1).toNat<p.Progs.length by omega)
 unfold wM
 rw [zGP,e];rfl
theorem znr {p:zb}(h:zB p) {m:Int}(hm:1<=m/\m<=p.Mutators) {o:zm}(ho:o∈wM p m):(0<=o.R/\o.R<(zgd p m:Int))/\(0<=o.A/\o.A<(zgd p m:Int)):=by
 have hr:=h.regs
 have er:=zGN (show (m-1).toNat<p.Regs.length by omega)
 have e1:zgd p m=(p.Regs[(m-1).toNat]'(by omega)).length:=by unfold zgd;rw [zGP,er];rfl
 have hl:=(h.reg _ (zHi (show (m-1).toNat<p.Regs.length by omega))).1
 obtain ⟨a,b⟩:=(h.prog _ _ _ er (zsE h hm)).2 o ho
 rw [e1]
 refine ⟨a,?_⟩
 rcases b with ⟨_,b,_⟩ | ⟨_,b,_⟩ | ⟨_,b,_⟩
 ·exact b
 ·exact b
 ·omega
theorem zir {p:zb}(h:zB p) {s:za}(hP:s.P=p) {m:Int}(hm:1<=m/\m<=p.Mutators) {x:zc}(hi:0<=x.IP/\x.IP<((wM p m).length:Int)) :
  vb ⟨x,s,m⟩=some (opM p m x,())/\opM p m x∈wM p m:=by
 have hmt:=h.mt
 have e:=zGN (show x.IP.toNat<(wM p m).length by omega)
 have eo:opM p m x=(wM p m)[x.IP.toNat]'(by omega):=by unfold opM;rw [zGP,e];rfl
 rw [zo7]
 dsimp only
 rw [hP,zV (a:=m-1) (by omega) (by omega),w8 (by omega),zsE h hm,zGL,w8 hi.1,e,zGL,eo]
 exact ⟨rfl,zHi _⟩
theorem znd {x:zc}{r:Int}(h:0<=r/\r<(x.Regs.length:Int)):idx x.Regs r=some (zbH x r):=by
 have e:=zGN (show r.toNat<x.Regs.length by omega)
 rw [w8 h.1,e]
 unfold zbH
 rw [zGP,e];rfl
theorem zgm {s:za}{m:Int}{x:zc}{r:Int}(h:0<=r/\r<(x.Regs.length:Int)) (hl:x.Regs.length<1000000) (v:Int):ut r v ⟨x,s,m⟩=some (⟨setM x r v,s,m⟩,()):=by
 rw [zkU]
 simp only [XH (show x.Regs.length<4294967296 by omega),zGL,wS h.1 h.2,ZW,xi]
 rfl
theorem zqg {p:zb}(h:zB p) {s:za}(hP:s.P=p) {m:Int}(hm:1<=m/\m<=p.Mutators) {x:zc}(hi:0<=x.IP/\x.IP<((wM p m).length:Int)) (hr:x.Regs.length=zgd p m) (ho:s.H.Objs.length<1000000) :
  WU ⟨x,s,m⟩=some (zxa s m x,()):=by
 obtain ⟨e1,e2⟩:=zir h hP hm hi
 have o:=znr h hm e2
 rw [zna]
 simp only [e1,zGL,znd (x:=x) (r:=(opM p m x).A) (by omega),zrS ho]
 unfold zxa
 rw [hP]
theorem znA {p:zb}{nb:Nat}(h:zB p) {s:za}(S:SOk p nb s) {m:Int}{x:zc}(M:MOk p nb x.G) (to:Int) :
  Z7 to ⟨x,s,m⟩=some (⟨if (zx s x.G).2.Out=1 then {x with PC:=to,G:=(zx s x.G).2} else {x with G:=(zx s x.G).2},(zx s x.G).1,m⟩,()):=by
 rw [zhm]
 simp only [zwr (S.gok h M),zGL,zj]
 split<;>rfl
theorem zsY (s:za) (x:zc) (m:Int):UI ⟨x,s,m⟩=some (onM s x.Slot,()):=by
 rw [zo8,zj]
 unfold onM
 split<;>rfl
theorem zpu (k hd to:Int) (s:za) (x:zc) (m:Int):YS k hd to ⟨x,s,m⟩=some (⟨{x with PC:=to,C:=⟨k,0,hd,zD s.P,0#64,x.Bin,0,0⟩},s,m⟩,()):=by
 rw [zjV]
 simp only [Uu,zGL,XY]
theorem zDN {m:List zc}(h:m.length<4294967296):wI m=some (m,()):=by
 rw [WH,zGV,yq h,zGL]
 cases m with
 | nil=>simp [zc5]
 | cons a l=>simp
theorem zwI {p:zb}(h:zB p) {nb:Nat}{s:za}(hP:s.P=p) {m:Int}(hm:1<=m/\m<=p.Mutators) (ha:(s.Acks.length:Int)=p.Mutators) {x:zc}(X:XOk p nb m x) :
  Vc ⟨x,s,m⟩=some (⟨zcm s m x,s,m⟩,()):=by
 have hmt:=h.mt
 have hip:=X.ip
 have hrs:=zmq h m
 have e:=zGN (show (m-1).toNat<s.Acks.length by omega)
 have ed:s.Acks.getD (m-1).toNat 0=s.Acks[(m-1).toNat]'(by omega):=by rw [zGP,e];rfl
 have pg:s.P.Progs[(m-1).toNat]? =some (wM p m):=by rw [hP];exact zsE h hm
 rw [ziF]
 simp only [zj]
 rw [zV (a:=m-1) (by omega) (by omega),w8 (by omega),e,zGL]
 unfold zcm
 rw [ed,hP]
 by_cases c:(s.Acks[(m-1).toNat]'(by omega))<s.Epoch
 ·rw [if_pos c,if_pos c]
 rw [if_neg c,if_neg c,<-hP,w8 (by omega),pg,zGL,hP]
 by_cases c2:((wM p m).length:Int)<=x.IP
 ·rw [if_pos c2,if_pos c2]
 rw [if_neg c2,if_neg c2]
 obtain ⟨e1,e2⟩:=zir h hP hm (x:=x) (show 0<=x.IP/\x.IP<((wM p m).length:Int) by omega)
 have o:=znr h hm e2
 have hreg:=X.regs
 rw [e1,zGL]
 by_cases k1:(opM p m x).Kind=1
 ·rw [if_pos k1,if_pos k1]
 rw [if_neg k1,if_neg k1]
 by_cases k2:(opM p m x).Kind=2
 ·rw [if_pos k2,if_pos k2]
 rw [if_neg k2,if_neg k2]
 by_cases k3:(opM p m x).Kind=3
 ·rw [if_pos k3,if_pos k3]
 rw [if_neg k3,if_neg k3]
 by_cases k4:(opM p m x).Kind=4
 ·rw [if_pos k4,if_pos k4,znd (x:=x) (r:=(opM p m x).A) (by omega),zGL,zgm (x:=x) (r:=(opM p m x).R) (by omega) (by omega)];rfl
 ·rw [if_neg k4,if_neg k4,zgm (x:=x) (r:=(opM p m x).R) (by omega) (by omega)];rfl
theorem zB6 {h:zo}(hl:h.Objs.length<1000000) (hs:∀l∈h.Objs,l.length<1000000) (o i v:Int):∃b,zoh h o i v=some (U8 h o i v,b,()):=by
 rw [zwE,zt4 hl,zGL]
 unfold U8
 cases ht:WO h o i with
 | false=>rw [if_neg (fun e=>by cases e.1)];exact ⟨_,rfl⟩
 | true =>
  rw [zG1,cond_false,zj]
  by_cases h1:v<0
  ·rw [if_pos h1,if_neg (by omega)];exact ⟨_,rfl⟩
  rw [if_neg h1,zj]
  by_cases h2:(h.Objs.length:Int)<v
  ·rw [if_pos h2,if_neg (by omega)];exact ⟨_,rfl⟩
  have hh:=ht
  unfold WO at hh
  simp only [zGM,decide_eq_true_eq] at hh
  obtain ⟨⟨⟨g1,g2⟩,g3⟩,g4⟩:=hh
  have e:=zGN (show (o-1).toNat<h.Objs.length by omega)
  have es:zN h o=h.Objs[(o-1).toNat]'(by omega):=by unfold zN;rw [zGP,e];rfl
  have hlen:=hs _ (zGT e)
  rw [if_neg h2,if_pos ⟨rfl,by omega,by omega⟩,zif (by omega),zGL,zV (a:=o-1) (by omega) (by omega),wS (l:=h.Objs) (by omega) (by omega),zGL,e,zGL,XH (by omega),zGL,zGL,zGL]
  rw [zj,if_pos rfl,wS g3 (by rw [<-es];exact g4),zGL,es]
  exact ⟨_,rfl⟩
theorem zwy {h:zo}(h1:1<=h.Slots/\h.Slots<=4) (h2:h.Objs.length<=64) (h3:∀o∈h.Objs,(o.length:Int)=h.Slots/\∀v∈o,0<=v/\v<=(h.Objs.length:Int)):zaM h=some (true,()):=by
 rw [zlC,zj,if_pos h1.1,zj,if_pos h1.2,zj,if_pos (by omega),zws (by omega) (by omega) h3]
 rfl
theorem zAj {h:zo}(h1:1<=h.Slots/\h.Slots<=4) (h2:h.Objs.length<=64) (h3:∀o∈h.Objs,(o.length:Int)=h.Slots/\∀v∈o,0<=v/\v<=(h.Objs.length:Int)) (hne:h.Objs≠[]) (most:Int) :
  zjk h most=some (if Xy h most=true then (uk h,(h.Objs.length:Int)+1,0,()) else (h,0,4,())):=by
 have hn:h.Objs.length≠0:=fun e=>hne (zHy e)
 rw [zti,zwy h1 h2 h3,zGL,zG1,cond_false]
 simp only [zj]
 have er:Xy h most=true↔(h.Objs.length:Int)<most/\(h.Objs.length:Int)<64:=by unfold Xy;simp
 have hx:(if 64<most then (64:Int) else most)<=(h.Objs.length:Int)↔¬(Xy h most=true):=by
  rw [er]
  split<;>omega
 by_cases hr:Xy h most=true
 ·rw [if_neg (fun e=>hx.1 e hr),if_pos hr]
  have ec:X9 h.Objs=some (h.Objs,()):=by
   rw [zhf]
   simp [hn]
  rw [ec,zGL,if_pos trivial,zlq,decide_eq_true (show 0<=h.Slots by omega),decide_eq_true (show h.Slots<4294967296 by omega)]
  simp only [Bool.and_self,cond_true,zGL]
  rw [yq (by simp only [zGZ,zIx];omega),zGL]
  unfold uk
  simp
 ·rw [if_pos (hx.2 hr),if_neg hr]
theorem zBf (t:zq) (o:Int):∃b,zj3 t o=some (XT t o,b,()):=by
 rw [ztl,ztY,zGL]
 unfold XT
 dsimp only
 cases hs:(vw t o).2 with
 | false=>rw [if_neg (by simp)];exact ⟨_,rfl⟩
 | true=>rw [zG1,cond_false,zpr,if_pos rfl];exact ⟨_,rfl⟩
theorem zoQ (l:zk) (who price limit:Int):Yn l who price limit=some (U5 l who price limit,()):=by
 rw [ziH,zjC,zGL]
 unfold U5 US
 simp only [zj]
 cases ht:(decide (1<=who)&&decide (who<=(l.Bal.length:Int))) with
 | false=>rw [cond_false];simp
 | true =>
  rw [cond_true]
  by_cases h1:0<=price<;>by_cases h2:0<=limit
  ·rw [if_pos (by split<;>omega)]
   simp only [zHJ,decide_eq_true h1,decide_eq_true h2,Option.some.injEq,Prod.mk.injEq,and_true]
   rw [Bool.eq_iff_iff]
   simp only [decide_eq_true_eq,zGM]
   split<;>omega
  ·rw [if_neg (by split<;>omega)];simp [h2]
  ·rw [if_neg (by split<;>omega)];simp [h1]
  ·rw [if_neg (by split<;>omega)];simp [h1]
theorem zvg {l:zk}{who:Int}(hl:l.Bal.length<1000000) (h:US l who=true):idx l.Bal (w64 (who-1))=some (zbh l who)/\xx l.Bal (w64 (who-1))=some (who-1).toNat/\l.Bal[(who-1).toNat]? =some (zbh l who):=by
 unfold US at h
 simp only [zGM,decide_eq_true_eq] at h
 have e:=zGN (show (who-1).toNat<l.Bal.length by omega)
 have eb:zbh l who=l.Bal[(who-1).toNat]'(by omega):=by unfold zbh;rw [zGP,e];rfl
 rw [zV (a:=who-1) (by omega) (by omega),w8 (by omega),wS (by omega) (by omega),e,eb]
 exact ⟨rfl,rfl,rfl⟩
theorem ztT {l:zk}(hl:l.Bal.length<1000000) (who price limit:Int):zdK l who price limit=some (zfJ l who price limit,()):=by
 rw [zts,zoQ,zGL]
 unfold zfJ
 cases hp:U5 l who price limit with
 | false=>rfl
 | true =>
  have ht:US l who=true:=by unfold U5 at hp;simp only [zGM] at hp;exact hp.1.1.1.1
  dsimp only
  rw [cond_true,(zvg hl ht).1,zGL,xi,zHJ,Int.zero_sub]
theorem zoJ {l l':zk}(hl:l.Bal.length<1000000) {who:Int}(h:US l who=true) (hb:l'.Bal=l.Bal) {v:Int}{Q:Option (zk×Unit)}{f:Int->Option (Int×Unit)}(hf:f (zbh l who)=some (v,()))
  (hQ:Q=bif decide (((l'.Bal.length:Int))=((l'.Bal.length:Int))) then (Wj ((l'.Bal.length:Int))).bind fun n1=>bif decide (l'.Bal.length=((List.replicate n1 ((0:Int))).length)) then
   bif l'.Bal.isEmpty then (xx (List.replicate n1 ((0:Int))) (w64 (who-1))).bind fun n2=>((List.replicate n1 ((0:Int)))[n2]?).bind fun x3=>(f x3).bind fun y4=>(xx (List.replicate n1 ((0:Int))) (w64 (who-1))).bind fun n5=>some ({l' with Bal:=(List.replicate n1 ((0:Int))).set n5 y4.1},())
   else (xx l'.Bal (w64 (who-1))).bind fun n6=>(l'.Bal[n6]?).bind fun x7=>(f x7).bind fun y8=>(xx l'.Bal (w64 (who-1))).bind fun n9=>some ({l' with Bal:=l'.Bal.set n9 y8.1},()) else none else none) :
  Q=some ({l' with Bal:=l.Bal.set (who-1).toNat v},()):=by
 obtain ⟨e1,e2,e3⟩:=zvg hl h
 have hne:l.Bal.isEmpty=false:=by
  cases hl2:l.Bal with
  | nil=>rw [hl2] at e3;simp at e3
  | cons a r=>rfl
 rw [hQ,hb,zlq,decide_eq_true (show (0:Int)<=(l.Bal.length:Int) by omega),decide_eq_true (show (l.Bal.length:Int)<4294967296 by omega)]
 simp only [decide_true,cond_true,Bool.and_self,zGL,zHs,zHC,hne,cond_false,e2,e3,hf]
theorem zys {l:zk}(hl:l.Bal.length<1000000) (who price limit:Int):zfa l who price limit=some (if zfJ l who price limit=true then (zbR l who price,true,()) else (l,false,())):=by
 rw [zq1,ztT hl,zGL]
 cases hm:zfJ l who price limit with
 | false=>rfl
 | true =>
  have ht:US l who=true:=by unfold zfJ U5 at hm;simp only [zGM] at hm;exact hm.1.1.1.1.1
  dsimp only
  rw [zG1,cond_false,zoJ (l':={l with Spent:=w64 (l.Spent+price)}) hl ht rfl (f:=fun b=>UH b price) (v:=wc (zbh l who-price)) (by rw [zo5,xi]) (VC _ _ _),zGL,if_pos rfl,xi]
  rfl
theorem zzm {l:zk}(hl:l.Bal.length<1000000) (who want:Int):zho l who want=some ((zcq l who want).1,(zcq l who want).2,()):=by
 rw [zsf,zjC,zGL]
 unfold zcq
 have em:(bif decide (l.Pool<want) then l.Pool else want)=zmH want l.Pool:=by rw [zj];rfl
 simp only [em]
 have et:(decide (1<=who)&&decide (who<=(l.Bal.length:Int)))=US l who:=rfl
 rw [et]
 cases ht:US l who with
 | false=>rw [if_neg (fun e=>by cases e.1)];rfl
 | true =>
  rw [zG1,cond_false,zj]
  by_cases hz:zmH want l.Pool<=0
  ·rw [if_pos hz,if_neg (by omega)]
  ·rw [if_neg hz,if_pos ⟨rfl,by omega⟩,zoJ (l':={l with Pool:=w64 (l.Pool-zmH want l.Pool)}) hl ht rfl (f:=fun b=>zaD b (zmH want l.Pool)) (v:=wc (zbh l who+zmH want l.Pool)) (by rw [zpW,xi]) (Ub _ _ _),zGL,xi]
theorem zxp {l:zk}(hl:l.Bal.length<1000000) (who price limit:Int):zfE l who price limit=some (zpc l who price limit,()):=by
 rw [zqY,zoQ,zGL]
 unfold zpc
 cases hp:U5 l who price limit with
 | false=>rfl
 | true =>
  have ht:US l who=true:=by unfold U5 at hp;simp only [zGM] at hp;exact hp.1.1.1.1
  dsimp only
  rw [zG1,cond_false,ztT hl,zGL,if_pos rfl]
  cases hm:zfJ l who price limit with
  | false=>rw [cond_false,(zvg hl ht).1,zGL,xi];rfl
  | true=>rfl
theorem zzA {p:zb}{nb:Nat}(h:zB p) {s:za}{x:zc}{m:Int}(S:SOk p nb s) (X:XOk p nb m x) (hm:1<=m/\m<=p.Mutators) (ha:(s.Acks.length:Int)=p.Mutators) (sm:Yq s) (H:HOk p s.H) (hb:x.Buf.length<1000000) (hbt:x.Batch.length<1000000):V0 ⟨x,s,m⟩=some (⟨(zA s m x).2,(zA s m x).1,m⟩,()):=by
 have hmt:=h.mt
 have hpc:=X.pc
 rw [zku]
 simp only [zj]
 unfold zA
 by_cases c0:x.PC=0
 ·rw [if_pos c0,if_pos c0,zwI h S.P hm ha X];rfl
 rw [if_neg c0,if_neg c0]
 by_cases c1:x.PC=1
 ·rw [if_pos c1,if_pos c1,ziD]
  simp only [zj]
  unfold mu1
  by_cases e:x.Buf.length=0
  ·rw [if_pos e,if_pos (by rw [zV (by omega) (by omega)];omega)];rfl
  ·have ei:=zGN (show x.Buf.length-1<x.Buf.length by omega)
   have en:((x.Buf.length:Int)-1).toNat=x.Buf.length-1:=by omega
   have ec:cut x.Buf 0 ((x.Buf.length:Int)-1)=some (x.Buf.take (x.Buf.length-1)):=by
    unfold cut
    rw [decide_eq_true (show (0:Int)<=0 by decide),decide_eq_true (show (0:Int)<=(x.Buf.length:Int)-1 by omega),decide_eq_true (show (x.Buf.length:Int)-1<=(x.Buf.length:Int) by omega),en]
    simp
   rw [if_neg e,zV (a:=(x.Buf.length:Int)-1) (by omega) (by omega),if_neg (by omega),w8 (by omega),en,ei,zGL,znO,zGL,ec,zGP,ei]
   rfl
 rw [if_neg c1,if_neg c1]
 by_cases c2:x.PC=2
 ·rw [if_pos c2,if_pos c2,zk8]
  have hs:=sm.acks
  simp only [XH (show s.Acks.length<4294967296 by omega),zGL]
  rw [zV (a:=m-1) (by omega) (by omega),wS (l:=s.Acks) (by omega) (by omega)]
  rfl
 rw [if_neg c2,if_neg c2]
 have hbl:=sm.bal
 have hon:=sm.objs
 have hregs:=X.regs
 have hrs:=zmq h m
 have hHs:=H.slots
 have hHn:=H.n
 have hpn:=h.n
 have hpm:=h.most
 have hps:=h.slots
 have op:=fun (hi:x.IP<((wM p m).length:Int))=>zir h S.P hm (x:=x) ⟨X.ip.1,hi⟩
 by_cases c3:x.PC=3
 ·rw [if_pos c3,if_pos c3,zij,znA h S (X.g (.inl c3)).1];rfl
 rw [if_neg c3,if_neg c3]
 by_cases c10:x.PC=10
 ·have hi:=X.op (.inl (by omega))
  obtain ⟨e1,e2⟩:=op hi
  have o:=znr h hm e2
  rw [if_pos c10,if_pos c10,zjb,e1,zGL,zqg h S.P hm ⟨X.ip.1,hi⟩ hregs hon,zGL,zgm (x:=x) (r:=(opM p m x).R) (by omega) (by omega)]
  unfold zmF
  rw [S.P];rfl
 rw [if_neg c10,if_neg c10]
 by_cases c20:x.PC=20
 ·have hi:=X.op (.inl (by omega))
  obtain ⟨e1,e2⟩:=op hi
  have o:=znr h hm e2
  rw [if_pos c20,if_pos c20,zk3,e1,zGL]
  unfold zkr
  dsimp only
  rw [znd (x:=x) (r:=(opM p m x).A) (by omega),zGL,zj,S.P]
  by_cases e:zbH x (opM p m x).A=0
  ·rw [if_pos e,if_pos e,ZW,xi];rfl
  ·rw [if_neg e,if_neg e,zqg h S.P hm ⟨X.ip.1,hi⟩ hregs hon];rfl
 rw [if_neg c20,if_neg c20]
 by_cases c21:x.PC=21
 ·rw [if_pos c21,if_pos c21,zig]
  unfold zjf
  dsimp only
  rw [zj]
  by_cases e:x.Old=0
  ·rw [if_pos e,if_pos (.inl e)];rfl
  ·rw [if_neg e,zAc,zGL,yx]
   by_cases e2:wW s.T x.Old=0
   ·rw [if_pos e2,if_neg (fun h=>h.elim e (fun h=>h e2))];rfl
   ·rw [if_neg e2,if_pos (.inr e2)];rfl
 rw [if_neg c21,if_neg c21]
 by_cases c22:x.PC=22
 ·rw [if_pos c22,if_pos c22,zeX]
  unfold zjG
  dsimp only
  rw [zj]
  by_cases e:s.P.Buf<=(x.Buf.length:Int)
  ·rw [if_pos e,if_pos e];rfl
  ·rw [if_neg e,if_neg e,XH (by omega),zGL,yq (by simp;omega)];rfl
 rw [if_neg c22,if_neg c22]
 by_cases c23:x.PC=23
 ·have hi:=X.op (.inl (by omega))
  obtain ⟨e1,e2⟩:=op hi
  have o:=znr h hm e2
  obtain ⟨b,ep⟩:=zB6 hon sm.obj (zbH x (opM p m x).A) (opM p m x).S (zbH x (opM p m x).R)
  rw [if_pos c23,if_pos c23,zim,e1,zGL]
  dsimp only
  rw [znd (x:=x) (r:=(opM p m x).A) (by omega),zGL,znd (x:=x) (r:=(opM p m x).R) (by omega),zGL,ep,zGL,ZW,xi]
  unfold zme
  rw [S.P];rfl
 rw [if_neg c23,if_neg c23]
 by_cases c30:x.PC=30
 ·have hi:=X.op (.inl (by omega))
  obtain ⟨e1,e2⟩:=op hi
  have o:=znr h hm e2
  have hne:s.H.Objs≠[]:=fun e=>by
   have e2:s.H.Objs.length=0:=by rw [e];rfl
   omega
  rw [if_pos c30,if_pos c30,zi2]
  unfold zfi
  dsimp only
  rw [zys hbl,zGL]
  cases hmay:zfJ s.L m s.P.Price s.P.Limit with
  | false=>rfl
  | true =>
   rw [if_pos rfl,if_pos rfl]
   dsimp only
   rw [zG1,cond_false,zAj (show 1<=s.H.Slots/\s.H.Slots<=4 by rw [hHs];omega) (show s.H.Objs.length<=64 by omega) H.objs hne,zGL]
   cases hr:Xy s.H s.P.Most with
   | false =>
    rw [if_neg (by simp),if_neg (by simp)]
    dsimp only
    rw [yx,if_neg (by decide),ZW,xi];rfl
   | true =>
    rw [if_pos rfl,if_pos rfl]
    dsimp only
    obtain ⟨b,ef⟩:=zBf s.T ((s.H.Objs.length:Int)+1)
    rw [yx,if_pos rfl,ef,zGL]
    have e3:=(zir h (s:={s with H:=uk s.H,T:=XT s.T ((s.H.Objs.length:Int)+1),L:=zbR s.L m s.P.Price}) S.P hm (x:=x) ⟨X.ip.1,hi⟩).1
    rw [e3,zGL,zgm (x:=x) (r:=(opM p m x).R) (by omega) (by omega),xr (by omega) (by omega)]
    rw [S.P];rfl
 rw [if_neg c30,if_neg c30]
 by_cases c31:x.PC=31
 ·rw [if_pos c31,if_pos c31,zjz]
  unfold zjL
  dsimp only
  rw [zxp hbl,zGL,zzm hbl,zGL,zj]
  by_cases e:(zcq s.L m (zpc s.L m s.P.Price s.P.Limit)).2=0
  ·rw [if_pos e,if_pos e,zbe,zGL,zpu];rfl
  ·rw [if_neg e,if_neg e];rfl
 rw [if_neg c31,if_neg c31]
 by_cases c32:x.PC=32
 ·rw [if_pos c32,if_pos c32,zk5]
  unfold zj8
  dsimp only
  rw [zd8 (by have:=S.mem;omega),zGL,zj,zj]
  by_cases e:(zn s.M x.C).2.Out=1
  ·rw [if_pos e,if_pos e];rfl
  ·rw [if_neg e,if_neg e]
   by_cases e2:(zn s.M x.C).2.Out=2
   ·rw [if_pos e2,if_pos e2];rfl
   ·rw [if_neg e2,if_neg e2];rfl
 rw [if_neg c32,if_neg c32]
 by_cases c33:x.PC=33
 ·have B:=X.b33 c33
  have hbn:=S.bins
  have hnb:=S.nbk
  have e:=zGN (show x.Bin.toNat<s.Bins.length by omega)
  rw [if_pos c33,if_pos c33,ziR]
  unfold zmI
  dsimp only
  rw [w8 (by omega),e,zGL,zif (by omega),zGL,wS (l:=s.Bins) (by omega) (by omega),zGL,zbN,zGL,zpu]
  have eb:W1 s x.Bin=s.Bins[x.Bin.toNat]'(by omega):=by unfold W1;rw [zGP,e];rfl
  rw [eb];rfl
 rw [if_neg c33,if_neg c33]
 by_cases c34:x.PC=34
 ·rw [if_pos c34,if_pos c34,zj5]
  unfold zj4
  dsimp only
  rw [zd8 (by have:=S.mem;omega),zGL,zj]
  by_cases e:(zn s.M x.C).2.Out=1
  ·rw [if_pos e,if_pos e];rfl
  ·rw [if_neg e,if_neg e];rfl
 rw [if_neg c34,if_neg c34]
 by_cases c35:x.PC=35
 ·rw [if_pos c35,if_pos c35,zii]
  unfold zjh
  dsimp only
  rw [zj]
  cases hbb:x.Batch with
  | nil=>rw [if_neg (by simp)];rfl
  | cons o l =>
   have:idx (o::l) 0=some o:=by rw [w8 (by omega)];rfl
   rw [if_pos (by simp),this,zGL,zrZ];rfl
 rw [if_neg c35,if_neg c35]
 by_cases c36:x.PC=36
 ·rw [if_pos c36,if_pos c36,zkg]
  unfold zjH
  dsimp only
  rw [zrS hon,zGL,zsY,zGL,yx,xi]
  by_cases e:yV s.H x.Obj x.Slot=0
  ·rw [if_pos e,if_pos e];rfl
  ·rw [if_neg e,if_neg e,znO];rfl
 rw [if_neg c36,if_neg c36]
 by_cases c37:x.PC=37
 ·rw [if_pos c37,if_pos c37,zk1,zsY,zGL,znA h S (X.g (.inr c37)).1];rfl
 rw [if_neg c37,if_neg c37]
 by_cases c38:x.PC=38
 ·rw [if_pos c38,if_pos c38,zgP]
  unfold zmM
  dsimp only
  rw [zpr,zGL,zry hbl];rfl
 rw [if_neg c38,if_neg c38]
 have c39:x.PC=39:=by omega
 rw [if_pos c39,if_pos c39,zha,xi];rfl
theorem zyB {p:zb}{nb:Nat}{s:za}(h:zB p) (E:EOk p nb s) (m:Int):zfA s m=some (yu s m,()):=by
 rw [zqT]
 simp only [zj]
 unfold yu
 cases hd:s.Done with
 | true=>rw [cond_true,if_pos (.inl rfl)]
 | false =>
  rw [cond_false]
  by_cases h1:m<1
  ·rw [if_pos h1,if_pos (.inr (.inl h1))]
  rw [if_neg h1]
  by_cases h2:(s.Ms.length:Int)<m
  ·rw [if_pos h2,if_pos (.inr (.inr h2))]
  have hml:=E.ml
  have hal:=E.al
  have hmt:=h.mt
  have e:=zGN (show (m-1).toNat<s.Ms.length by omega)
  have ei:(((m-1).toNat:Nat):Int)+1=m:=by omega
  have hX:=E.X _ _ e
  rw [ei] at hX
  have hb:=(E.small.mu _ (zGT e)).2
  have T:=zxy s m (s.Ms[(m-1).toNat]'(by omega))
  rw [if_neg h2,if_neg (fun e=>e.elim (fun h=>by cases h) (fun e=>e.elim h1 h2)),zV (a:=m-1) (by omega) (by omega),w8 (by omega),e,zGL,zzA h E.S hX (by omega) (by omega) E.small E.H hb.1 hb.2,zGL]
  simp only [T.ms,zDN (show s.Ms.length<4294967296 by omega),zGL,wS (l:=s.Ms) (show 0<=m-1 by omega) (show m-1<(s.Ms.length:Int) by omega)]
end
end Go.Pe.G
namespace Go.Pe.G
open Go.Pe
noncomputable section
theorem zzF {p:zb}{nb:Nat}{s:za}(h:zB p) (E:EOk p nb s):zhT s=some (xB s,()):=by
 rw [zr1,xi]
 simp only [zj,yx]
 have ag:∀s:za,VH s=some ({s with Restarts:=wc (s.Restarts+1),D:={s.D with PC:=0}},()):=fun s=>by rw [zox,xi]
 unfold xB
 by_cases hd:s.Done=true
 ·rw [cond_eq_ite,if_pos hd,if_pos hd]
 ·rw [cond_eq_ite,if_neg hd,if_neg hd]
  by_cases c0:s.D.PC=0
  ·rw [if_pos c0,if_pos c0]
  rw [if_neg c0,if_neg c0]
  by_cases c1:s.D.PC=1
  ·rw [if_pos c1,if_pos c1]
   by_cases w:s.Work=0
   ·rw [if_pos w,if_pos w]
   ·rw [if_neg w,if_neg w]
  rw [if_neg c1,if_neg c1]
  by_cases c2:s.D.PC=2
  ·rw [if_pos c2,if_pos c2]
   by_cases w:s.Ms.length=0
   ·rw [if_pos (show (s.Ms.length:Int)=0 by omega),if_pos w]
   ·rw [if_neg (show ¬(s.Ms.length:Int)=0 by omega),if_neg w]
  rw [if_neg c2,if_neg c2]
  by_cases c3:s.D.PC=3
  ·have hi:=E.D.2 c3
   have ha:=E.al
   have e:=zGN (show s.D.I.toNat<s.Acks.length by omega)
   have ed:s.Acks.getD s.D.I.toNat 0=s.Acks[s.D.I.toNat]'(by omega):=by rw [zGP,e];rfl
   rw [if_pos c3,if_pos c3,w8 hi.1,e,zGL,ed]
   by_cases w:(s.Acks[s.D.I.toNat]'(by omega))<s.Epoch
   ·rw [if_pos w,if_pos w]
   ·rw [if_neg w,if_neg w]
    by_cases v:wc (s.D.I+1)=(s.Ms.length:Int)
    ·rw [if_pos v,if_pos v]
    ·rw [if_neg v,if_neg v,c3]
  rw [if_neg c3,if_neg c3]
  by_cases c4:s.D.PC=4
  ·rw [if_pos c4,if_pos c4]
   by_cases w:s.Work=0
   ·rw [if_pos w,if_pos w]
   ·rw [if_neg w,if_neg w,ag];rfl
  rw [if_neg c4,if_neg c4]
  by_cases c5:s.D.PC=5
  ·rw [if_pos c5,if_pos c5]
   by_cases hf:s.Flag=true
   ·rw [cond_eq_ite,if_pos hf,if_pos hf,ag];rfl
   ·rw [cond_eq_ite,if_neg hf,if_neg hf]
  rw [if_neg c5,if_neg c5]
  by_cases c6:s.D.PC=6
  ·rw [if_pos c6,if_pos c6]
  ·rw [if_neg c6,if_neg c6]
end
end Go.Pe.G
namespace Go.Pe.G
open Go.Pe
noncomputable section
theorem zC7 {m:List zh}(h:m.length<4294967296):wZ m=some (m,()):=by
 rw [Vg,zGV,yq h,zGL]
 cases m with
 | nil=>simp [zc5]
 | cons a l=>simp
theorem zDb {n v:Int}(h:1<=v/\v<=n) (hn:n<1000000):w64 (v.tmod n+1)=ziO n v:=by
 unfold ziO
 rw [Int.tmod_eq_emod_of_nonneg (by omega)]
 by_cases hv:v<n
 ·rw [if_pos hv,Int.emod_eq_of_lt (by omega) hv,zV (by omega) (by omega)]
 ·have:v=n:=by omega
  rw [if_neg hv,this,Int.emod_self,zV (by omega) (by omega)]
  rfl
theorem zzM {p:zb}(h:zB p) {s:za}(hP:s.P=p) (hl:(s.Ws.length:Int)=p.Workers) {x:zh}(hv:1<=x.Victim/\x.Victim<=p.Workers) (w:Int) :
  XB ⟨x,s,w⟩=some (⟨Yo p w x,s,w⟩,()):=by
 have hw:=h.wk
 rw [zk4]
 simp only [zj,hl]
 rw [if_neg (show ¬p.Workers=0 by omega),zDb hv (by omega)]
 unfold Yo
 by_cases e:ziO p.Workers x.Victim=w
 ·rw [if_pos e,if_pos e,zbe,zGL,zdB]
  simp only [Uu,zGL,XY,e,hP]
  rfl
 ·rw [if_neg e,if_neg e,zgU]
  simp only [U0,zGL,Uq,hP]
theorem zp5 {p:zb}{s:za}(hP:s.P=p) (x:zh) (w:Int):vX ⟨x,s,w⟩=some (⟨V8 p w x,s,w⟩,()):=by
 rw [zkb,zgU]
 simp only [U0,zGL,Uq,hP]
 rfl
theorem zvO (s:za) (x:zh) (w:Int):WY ⟨x,s,w⟩=some (onW s x.Slot,()):=by
 rw [zpz,zj]
 unfold onW
 split<;>rfl
theorem zrx {s:za}(hm:s.M.length<4294967296) (x:zh) (w:Int):uz ⟨x,s,w⟩=some ((zn s.M x.C).2.Out,⟨{x with C:=(zn s.M x.C).2},{s with M:=(zn s.M x.C).1},w⟩,()):=by
 rw [zkQ]
 simp only [zd8 hm,zGL]
theorem zut {p:zb}(h:zB p) {s:za}(hP:s.P=p) (hm:s.M.length<4294967296) (hl:(s.Ws.length:Int)=p.Workers) {x:zh}(hv:1<=x.Victim/\x.Victim<=p.Workers) (hc:x.D.Cap<1000) {w:Int}(h01:x.PC=0\/x.PC=1) :
  Wo ⟨x,s,w⟩=some (⟨(zp s w x).2,(zp s w x).1,w⟩,()):=by
 unfold zp
 rw [if_pos h01,zmv]
 simp only [zAR hm hc,zGL,zj]
 by_cases o1:(zT s.M x.D).2.Out=1
 ·rw [if_pos o1,if_pos o1,zbq];rfl
 ·rw [if_neg o1,if_neg o1]
  have hk:=fun (x':zh) (e:x'.Victim=x.Victim)=>zzM h (s:={s with M:=(zT s.M x.D).1}) hP hl (x:=x') (by rw [e];exact hv) w
  by_cases o4:(zT s.M x.D).2.Out=4
  ·rw [if_pos o4,if_pos (.inr o4),hk {x with D:=(zT s.M x.D).2} rfl,zGL,hP]
  ·rw [if_neg o4]
   by_cases o2:(zT s.M x.D).2.Out=2
   ·rw [if_pos o2,if_pos (.inl o2),hk {x with D:=(zT s.M x.D).2} rfl,zGL,hP]
   ·rw [if_neg o2,if_neg (by omega)]
theorem zAy {p:zb}{nb:Nat}(h:zB p) {s:za}{x:zh}{w:Int}(S:SOk p nb s) (W:WOk p nb w x) (hl:(s.Ws.length:Int)=p.Workers) (sm:Yq s) :
  Uz ⟨x,s,w⟩=some (⟨(zp s w x).2,(zp s w x).1,w⟩,()):=by
 have hP:=S.P
 have hm:s.M.length<4294967296:=by have:=S.mem;omega
 have hc:=h.cap
 rw [zkY]
 simp only [zj]
 by_cases c0:x.PC=0
 ·rw [if_pos c0,if_pos c0,zut h hP hm hl W.vic (by have:=(W.d0 c0).2.2;omega) (.inl c0),zGL]
 rw [if_neg c0]
 by_cases c1:x.PC=1
 ·rw [if_pos c1,zut h hP hm hl W.vic (by have:=(W.d1 c1).2.2;omega) (.inr c1),zGL]
 rw [if_neg c1]
 unfold zp
 rw [if_neg (show ¬(x.PC=0\/x.PC=1) by omega)]
 by_cases c2:x.PC=2
 ·rw [if_pos c2,if_pos c2,zrx hm,zGL]
  simp only [zp5 (s:={s with M:=(zn s.M x.C).1}) hP]
  by_cases o1:(zn s.M x.C).2.Out=1
  ·rw [if_pos o1,if_pos o1]
  ·rw [if_neg o1,if_neg o1]
   by_cases o2:(zn s.M x.C).2.Out=2
   ·rw [if_pos o2,if_pos o2,zGL,hP]
   ·rw [if_neg o2,if_neg o2]
 rw [if_neg c2,if_neg c2]
 by_cases c3:x.PC=3
 ·have B:=W.b3 c3
  have hb:=S.bins
  have hnb:=S.nbk
  have e:=zGN (show x.Bin.toNat<s.Bins.length by omega)
  rw [if_pos c3,if_pos c3,zkW]
  dsimp only
  rw [w8 (by omega),e,zGL,zif (by omega),zGL,wS (l:=s.Bins) (by omega) (by omega),zGL,zbN,zGL,zdB]
  simp only [Uu,zGL,XY]
  unfold W1
  rw [zGP,e];rfl
 rw [if_neg c3,if_neg c3]
 by_cases c4:x.PC=4
 ·rw [if_pos c4,if_pos c4,zrx hm,zGL]
  dsimp only
  by_cases o1:(zn s.M x.C).2.Out=1
  ·rw [if_pos o1,if_pos o1]
  ·rw [if_neg o1,if_neg o1]
 rw [if_neg c4,if_neg c4]
 by_cases c5:x.PC=5
 ·rw [if_pos c5,if_pos c5,zkT]
  simp only [zrS sm.objs,zGL,zj,zvO,znO,xi]
  by_cases v:yV s.H x.Obj x.Slot=0
  ·rw [if_pos v,if_pos v];rfl
  ·rw [if_neg v,if_neg v];rfl
 rw [if_neg c5,if_neg c5]
 by_cases c6:x.PC=6
 ·obtain ⟨g1,g2,g3,g4⟩:=W.g6 c6
  rw [if_pos c6,if_pos c6]
  simp only [zwr (S.gok h g1),zGL,zvO]
  have eH:(zx s x.G).1.H=s.H:=(zcP s x.G).2
  by_cases o1:(zx s x.G).2.Out=1
  ·rw [if_pos o1,if_pos o1]
   unfold onW
   rw [eH]
  ·rw [if_neg o1,if_neg o1]
 rw [if_neg c6,if_neg c6]
 by_cases c7:x.PC=7
 ·rw [if_pos c7,if_pos c7]
  cases hb:x.Batch with
  | nil=>rw [if_pos (by simp),zp5 hP,zGL,hP]
  | cons o l =>
   rw [if_neg (by simp;omega),w8 (by omega)]
   simp only [Int.toNat_zero,zHO,zGL,zbq,hb]
   rw [zrZ];rfl
 rw [if_neg c7,if_neg c7]
 by_cases c8:x.PC=8
 ·rw [if_pos c8,if_pos c8]
  simp only [zpr,zGL,zry sm.bal]
 rw [if_neg c8,if_neg c8]
 by_cases c9:x.PC=9
 ·rw [if_pos c9,if_pos c9,xi]
 ·rw [if_neg c9,if_neg c9]
theorem zzG {p:zb}{nb:Nat}{s:za}(h:zB p) (E:EOk p nb s) (w:Int):zhB s w=some (z9 s w,()):=by
 rw [zsm]
 simp only [zj]
 unfold z9
 cases hd:s.Done with
 | true=>rw [cond_true,if_pos (.inl rfl)]
 | false =>
  rw [cond_false]
  by_cases h1:w<1
  ·rw [if_pos h1,if_pos (.inr (.inl h1))]
  rw [if_neg h1]
  by_cases h2:(s.Ws.length:Int)<w
  ·rw [if_pos h2,if_pos (.inr (.inr h2))]
  have hwl:=E.wl
  have hwk:=h.wk
  have e:=zGN (show (w-1).toNat<s.Ws.length by omega)
  have ei:(((w-1).toNat:Nat):Int)+1=w:=by omega
  have hW:=E.W _ _ e
  rw [ei] at hW
  obtain ⟨T,TH⟩:=zvK s w (s.Ws[(w-1).toNat]'(by omega))
  rw [if_neg h2,if_neg (fun e=>e.elim (fun h=>by cases h) (fun e=>e.elim h1 h2)),zV (a:=w-1) (by omega) (by omega),w8 (by omega),e,zGL,zAy h E.S hW hwl E.small,zGL]
  simp only [T.ws,zC7 (show s.Ws.length<4294967296 by omega),zGL,wS (l:=s.Ws) (show 0<=w-1 by omega) (show w-1<(s.Ws.length:Int) by omega)]
end
end Go.Pe.G
namespace Go.Pe.G
open Go.Pe
noncomputable section
theorem WT (s:za) (g:zu):(zx s g).1={s with M:=(zx s g).1.M,Bins:=(zx s g).1.Bins,T:=(zx s g).1.T,Work:=(zx s g).1.Work,Flag:=(zx s g).1.Flag}:=by
 obtain ⟨m,b,t,wk,f,e,_⟩:=ziA s g
 rw [e]
theorem znK {p:zb}{nb:Nat}{s:za}{w:Int}{x:zh}(W:WOk p nb w x):(zp s w x).1={s with M:=(zp s w x).1.M,Bins:=(zp s w x).1.Bins,T:=(zp s w x).1.T,Work:=(zp s w x).1.Work,L:=(zp s w x).1.L}:=by
 unfold zp
 split
 ·rfl
 split
 ·rfl
 split
 ·rfl
 split
 ·rfl
 split
 ·rfl
 split
 ·rename_i h6
  obtain ⟨g1,g2,g3,g4⟩:=W.g6 h6
  have hf:=(zz1 s g3 g4).2
  obtain ⟨m,b,t,wk,f,e,_⟩:=ziA s x.G
  dsimp only
  rw [e] at hf ⊢
  have hf:f=s.Flag:=hf
  rw [hf]
 split
 ·rfl
 split
 ·rfl
 split<;>rfl
theorem zv9 (s:za) (m:Int) (x:zc):(zA s m x).1={s with H:=(zA s m x).1.H,M:=(zA s m x).1.M,Bins:=(zA s m x).1.Bins,T:=(zA s m x).1.T,Work:=(zA s m x).1.Work,Flag:=(zA s m x).1.Flag,Acks:=(zA s m x).1.Acks,L:=(zA s m x).1.L}:=by
 have g:∀g:zu,(zx s g).1={s with H:=(zx s g).1.H,M:=(zx s g).1.M,Bins:=(zx s g).1.Bins,T:=(zx s g).1.T,Work:=(zx s g).1.Work,Flag:=(zx s g).1.Flag,Acks:=(zx s g).1.Acks,L:=(zx s g).1.L}:=fun g=>by
  obtain ⟨m,b,t,wk,f,e,_⟩:=ziA s g
  rw [e]
 refine vu (motive:=fun r=>r.1={s with H:=r.1.H,M:=r.1.M,Bins:=r.1.Bins,T:=r.1.T,Work:=r.1.Work,Flag:=r.1.Flag,Acks:=r.1.Acks,L:=r.1.L}) s m x ?_ ?_ ?_ ?_ ?_ ?_ ?_ ?_ ?_ ?_ ?_ ?_ ?_ ?_ ?_ ?_ ?_ ?_ ?_ ?_
 ·exact fun _=>rfl
 ·exact fun _=>rfl
 ·exact fun _=>rfl
 ·exact fun _=>g x.G
 ·exact fun _=>rfl
 ·exact fun _=>rfl
 ·exact fun _=>rfl
 ·exact fun _=>rfl
 ·exact fun _=>rfl
 ·intro _
  unfold zfi
  split
  ·split<;>rfl
  ·rfl
 ·exact fun _=>rfl
 ·exact fun _=>rfl
 ·exact fun _=>rfl
 ·exact fun _=>rfl
 ·exact fun _=>rfl
 ·exact fun _=>rfl
 ·exact fun _=>g x.G
 ·exact fun _=>rfl
 ·exact fun _=>rfl
 ·rfl
def zak (s:za) (k:Int):za:=if k=0 then xB s else if k<=(s.Ws.length:Int) then z9 s k else yu s (k-s.Ws.length)
theorem zrQ {p:zb}{nb:Nat}{s:za}(E:EOk p nb s) (w:Int):z9 s w={s with M:=(z9 s w).M,Bins:=(z9 s w).Bins,T:=(z9 s w).T,Work:=(z9 s w).Work,L:=(z9 s w).L,Ws:=(z9 s w).Ws}:=by
 unfold z9
 split
 ·rfl
 rename_i hc
 cases hx:s.Ws[(w-1).toNat]? with
 | none=>rfl
 | some x =>
  have hW:=E.W _ _ hx
  rw [show (((w-1).toNat:Nat):Int)+1=w by omega] at hW
  dsimp only
  rw [znK hW]
structure AI (k:Int) (s:za):Prop where
 ep:0<=s.Epoch/\s.Epoch<=k
 m:∀(i:Nat) x,s.Ms[i]? =some x->s.Acks.getD i 0<=s.Epoch/\(x.PC=2\/((x.PC=1\/x.PC=3)/\x.Ret=2)->s.Acks.getD i 0<=x.Want/\x.Want<=s.Epoch)/\(x.PC=2->x.Buf=[])
def zGl (s s':za):Prop:=∀(i:Nat) x',s'.Ms[i]? =some x'->s.Acks.getD i 0<=s'.Acks.getD i 0/\s'.Acks.getD i 0<=s'.Epoch/\(s.Acks.getD i 0<s'.Acks.getD i 0->x'.Buf=[])
theorem AI.same {k:Int}{s s':za}(A:AI k s) (e1:s'.Epoch=s.Epoch) (e2:s'.Ms=s.Ms) (e3:s'.Acks=s.Acks):AI (k+1) s'/\zGl s s':=by
 refine ⟨⟨by rw [e1];have:=A.ep;omega,by rw [e1,e2,e3];exact A.m⟩,fun i x hx=>?_⟩
 rw [e2] at hx
 rw [e3,e1]
 exact ⟨zHv _,(A.m i x hx).1,fun e=>by omega⟩
theorem zCW {α:Type}{l:List α}{i j:Nat}{v d:α}(h:i<l.length):(l.set i v).getD j d=if i=j then v else l.getD j d:=by
 rw [zGP,zGP,zHx]
 by_cases e:i=j
 ·rw [if_pos e,if_pos e,if_pos h];rfl
 ·rw [if_neg e,if_neg e]
end
end Go.Pe.G
namespace Go.Pe.G
open Go.Pe
noncomputable section
def goF {S:Type}(g:Nat->S->S):Nat->Nat->S->S
 | _,0,s=>s
 | i,k+1,s=>goF g (i+1) k (g i s)
theorem zEK {S σ B C:Type}{f:σ->Option (yC σ B C)}(A:Int->S->σ) (b:S->B) (n:Nat) (hn:n<1000000) (g:Nat->S->S) (Inv:S->Prop) (hg:∀i s,Inv s->Inv (g i s))
  (h1:∀(i:Nat) s,i<n->Inv s->f (A (i:Int) s)=some (.again (A ((i+1:Nat):Int) (g i s)))) (h2:∀s,Inv s->f (A (n:Int) s)=some (.brk (b s))) {s:S}(hs:Inv s) :
  zP f (A 0 s)=some (.brk (b (goF g 0 n s))):=by
 have key:∀(k i:Nat) (s:S),n-i=k->i<=n->Inv s->∀m,k<m->xw f m (A (i:Int) s)=some (.brk (b (goF g i k s))):=by
  intro k
  induction k with
  | zero =>
   intro i s hk hi hs m hm
   have:i=n:=by omega
   subst this
   obtain ⟨m,rfl⟩:∃x,m=x+1:=⟨m-1,by omega⟩
   simp only [xw]
   rw [h2 s hs];rfl
  | succ k ih =>
   intro i s hk hi hs m hm
   obtain ⟨m,rfl⟩:∃x,m=x+1:=⟨m-1,by omega⟩
   simp only [xw]
   rw [h1 i s (by omega) hs,zGL]
   exact ih (i+1) _ (by omega) (by omega) (hg i s hs) m (by omega)
 have:=key n 0 s (by omega) (by omega) hs vQ (ve (by omega))
 rw [Wf]
 exact this
end
end Go.Pe.G
namespace Go.Pe.G
open Go.Pe
noncomputable section
def vO (s:za) (x:zg):za :=
 if x.Kind=0 then (if x.N=0 then xB s else s)
 else if x.Kind=1 then (if 1<=x.N/\x.N<=16 then z9 s x.N else s)
 else if x.Kind=2 then (if 1<=x.N/\x.N<=16 then yu s x.N else s)
 else s
theorem zzY {p:zb}{nb:Nat}{s:za}(h:zB p) (E:EOk p nb s) (x:zg):EOk p nb (vO s x):=by
 unfold vO
 split
 ·split
  ·exact zD9 h E
  ·exact E
 split
 ·split
  ·exact zrG h E _
  ·exact E
 split
 ·split
  ·exact zwa h E _
  ·exact E
 ·exact E
theorem zrF {p:zb}{nb:Nat}{s:za}(h:zB p) (E:EOk p nb s) (x:zg):zcu s x=some (vO s x,()):=by
 rw [zsn,ztS]
 unfold vO
 by_cases k0:x.Kind=0
 ·rw [decide_eq_true k0,cond_true,cond_true,if_pos k0,zGL]
  by_cases n0:x.N=0
  ·rw [decide_eq_true n0,if_pos n0,zG1,cond_false,zqi,zzF h E];rfl
  ·rw [decide_eq_false n0,if_neg n0];rfl
 rw [decide_eq_false k0,cond_false,cond_false,if_neg k0]
 have key:(bif decide (1<=x.N) then some (decide (x.N<=16),()) else some (false,()):Option (Bool×Unit))=some (decide (1<=x.N/\x.N<=16),()):=by
  by_cases a:1<=x.N
  ·by_cases b:x.N<=16
   ·rw [decide_eq_true a,decide_eq_true b,decide_eq_true (show 1<=x.N/\x.N<=16 from ⟨a,b⟩)];rfl
   ·rw [decide_eq_true a,decide_eq_false b,decide_eq_false (show ¬(1<=x.N/\x.N<=16) from fun e=>b e.2)];rfl
  ·rw [decide_eq_false a,decide_eq_false (show ¬(1<=x.N/\x.N<=16) from fun e=>a e.1)];rfl
 rw [key]
 by_cases k1:x.Kind=1
 ·rw [decide_eq_true k1,cond_true,cond_true,if_pos k1,zGL]
  by_cases n0:1<=x.N/\x.N<=16
  ·rw [decide_eq_true n0,if_pos n0,zG1,cond_false,zzG h E];rfl
  ·rw [decide_eq_false n0,if_neg n0];rfl
 rw [decide_eq_false k1,cond_false,cond_false,if_neg k1]
 by_cases k2:x.Kind=2
 ·rw [decide_eq_true k2,cond_true,cond_true,if_pos k2,zGL]
  by_cases n0:1<=x.N/\x.N<=16
  ·rw [decide_eq_true n0,if_pos n0,zG1,cond_false,zyB h E];rfl
  ·rw [decide_eq_false n0,if_neg n0];rfl
 ·rw [decide_eq_false k2,cond_false,cond_false,if_neg k2];rfl
def YH (p:zb) (x:zg):Prop:=(x.Kind=0/\x.N=0)\/(x.Kind=1/\1<=x.N/\x.N<=p.Workers)\/(x.Kind=2/\1<=x.N/\x.N<=p.Mutators)
def ziI (p:zb) (x:zg):Int:=if x.Kind=0 then 0 else if x.Kind=1 then x.N else p.Workers+x.N
theorem zwo {p:zb}{nb:Nat}{s:za}(h:zB p) (E:EOk p nb s) {x:zg}(hx:YH p x):vO s x=zak s (ziI p x):=by
 have hw:=h.wk
 have hm:=h.mt
 have hwl:=E.wl
 rcases hx with ⟨a,b⟩ | ⟨a,b,c⟩ | ⟨a,b,c⟩
 ·have ek:ziI p x=0:=if_pos a
  rw [ek];unfold vO zak
  rw [if_pos a,if_pos b,if_pos rfl]
 ·have ek:ziI p x=x.N:=by unfold ziI;rw [if_neg (by rw [a];decide),if_pos a]
  rw [ek];unfold vO zak
  rw [if_neg (by rw [a];decide),if_pos a,if_pos ⟨b,by omega⟩,if_neg (by omega),if_pos (by omega)]
 ·have ek:ziI p x=p.Workers+x.N:=by unfold ziI;rw [if_neg (by rw [a];decide),if_neg (by rw [a];decide)]
  rw [ek];unfold vO zak
  rw [if_neg (by rw [a];decide),if_neg (by rw [a];decide),if_pos a,if_pos ⟨b,by omega⟩,if_neg (by omega),if_neg (by omega)]
  congr 1;omega
def uJ:za->List zg->za×Int
 | s,[]=>(s,0)
 | s,x::l=>if s.Done=true then (s,0) else ((uJ (vO s x) l).1,(uJ (vO s x) l).2+1)
theorem zqv (s:za) (x:zg) (l:List zg):uJ s (x::l)=if s.Done=true then (s,0) else ((uJ (vO s x) l).1,(uJ (vO s x) l).2+1):=rfl
theorem zxe {p:zb}{nb:Nat}(h:zB p):∀(l:List zg) {s:za},EOk p nb s->EOk p nb (uJ s l).1
 | [],s,E=>E
 | x::l,s,E=>by
  unfold uJ
  split
  ·exact E
  ·exact zxe h l (zzY h E x)
theorem zdO {p:zb}{nb:Nat}{s:za}(h:zB p) (E:EOk p nb s) {l:List zg}(hl:l.length<1000000):u6 s l=some ((uJ s l).1,(uJ s l).2,()):=by
 rw [ztd]
 obtain ⟨o,e,ho⟩:=xV (f:=zdI) (fun a=>∃(i:Nat) (t:za),i<=l.length/\EOk p nb t/\a=(l,l,(l.length:Int),(i:Int),t,0,0,0,0,0,0,0,0,0,0#64,0,zq.mk 0#64 0#64,0,0,false,false,0,0,0,0,zw.mk 0 0,([]:List (List Int)),([]:List (List Int)),([]:List (List zm)),([]:List zg),([]:List (List Int)),([]:List (BitVec 64)),([]:List (List Int)),([]:List Int),([]:List Int),([]:List zh),([]:List zc),())/\(uJ s l).1=(uJ t (l.drop i)).1/\(uJ s l).2=(i:Int)+(uJ t (l.drop i)).2) (fun a=>l.length-a.2.2.2.1.toNat)
  (fun o=>o= .brk (l,(uJ s l).1,0,0,0,0,0,0,0,0,0,0#64,0,zq.mk 0#64 0#64,0,0,false,false,0,0,0,0,zw.mk 0 0,([]:List (List Int)),([]:List (List Int)),([]:List (List zm)),([]:List zg),([]:List (List Int)),([]:List (BitVec 64)),([]:List (List Int)),([]:List Int),([]:List Int),([]:List zh),([]:List zc),())/\(uJ s l).2=(l.length:Int)\/o= .ret ((uJ s l).2,(uJ s l).1,())) (by
  rintro _ ⟨i,t,hi,F,rfl,r1,r2⟩
  rw [zqc,zj]
  by_cases c1:(i:Int)<(l.length:Int)
  ·have hx:=zGN (show i<l.length by omega)
   have hd:=zHz (show i<l.length by omega)
   generalize l[i]'(by omega)=x at hx hd
   rw [if_pos c1,xu hx,zGL]
   rw [hd] at r1 r2
   cases hD:t.Done with
   | true =>
    rw [zqv,if_pos hD] at r1 r2
    refine ⟨_,rfl,.inr ?_⟩
    rw [r1,r2];simp
   | false =>
    rw [zqv,if_neg (by rw [hD];decide)] at r1 r2
    rw [cond_false,zrF h F,zGL,yz (by omega)]
    refine ⟨_,rfl,⟨i+1,vO t x,by omega,zzY h F x,rfl,r1,?_⟩,?_⟩
    ·rw [r2];dsimp only;omega
    ·show l.length-((i+1:Nat):Int).toNat<l.length-(i:Int).toNat
     omega
  ·rw [if_neg c1]
   have ei:i=l.length:=by omega
   subst ei
   rw [List.drop_length] at r1 r2
   refine ⟨_,rfl,.inl ⟨?_,?_⟩⟩
   ·rw [r1];rfl
   ·rw [r2];show (l.length:Int)+0=_;omega) (l,l,(l.length:Int),0,s,0,0,0,0,0,0,0,0,0,0#64,0,zq.mk 0#64 0#64,0,0,false,false,0,0,0,0,zw.mk 0 0,([]:List (List Int)),([]:List (List Int)),([]:List (List zm)),([]:List zg),([]:List (List Int)),([]:List (BitVec 64)),([]:List (List Int)),([]:List Int),([]:List Int),([]:List zh),([]:List zc),()) ⟨0,s,by omega,E,rfl,by rw [List.drop_zero],by rw [List.drop_zero];omega⟩ (by show l.length-0<18446744073709551616;omega)
 rw [e]
 rcases ho with ⟨rfl,hn⟩ | rfl
 ·rw [hn];rfl
 ·rfl
def zav (k:Int) (n:Nat):List zg:=(List.range n).map fun i:Nat=>⟨k,(i:Int)+1⟩
theorem zt7 (k:Int) (n:Nat):zav k (n+1)=zav k n++[⟨k,(n:Int)+1⟩]:=by unfold zav;rw [zH0,List.map_append];rfl
theorem zlm (k:Int) (n:Nat):(zav k n).length=n:=by unfold zav;simp
def Xk (n m:Nat):List zg:=(⟨0,0⟩::zav 1 n)++zav 2 m
theorem zBr {n m:Nat}(hn:n<=16) (hm:m<=16):zjX (n:Int) (m:Int)=some (Xk n m,()):=by
 have en:∀k:Nat,k<=16->(bif decide ((bif decide (16<(k:Int)) then 16 else (k:Int))<0) then 0 else (bif decide (16<(k:Int)) then 16 else (k:Int)))=(k:Int):=fun k hk=>by
  simp only [zj]
  rw [if_neg (show ¬(16:Int)<(k:Int) by omega),if_neg (by omega)]
 rw [zum,en n hn]
 obtain ⟨o,e,rfl⟩:=xV (f:=zdy) (fun a=>∃i:Nat,i<=n/\a=((m:Int),(n:Int),(i:Int),⟨0,0⟩::zav 1 i,())) (fun a=>n-a.2.2.1.toNat) (fun o=>o= .brk ((m:Int),⟨0,0⟩::zav 1 n,())) (by
  rintro _ ⟨i,hi,rfl⟩
  rw [zqb,zj]
  by_cases c1:(i:Int)<(n:Int)
  ·rw [if_pos c1,yz (by omega),yq (by simp [zlm];omega),zGL]
   refine ⟨_,rfl,⟨i+1,by omega,?_⟩,?_⟩
   ·rw [zt7,show ((i+1:Nat):Int)=(i:Int)+1 by omega];rfl
   ·show n-((i+1:Nat):Int).toNat<n-(i:Int).toNat
    omega
  ·rw [if_neg c1]
   have:i=n:=by omega
   subst this
   exact ⟨_,rfl,rfl⟩) ((m:Int),(n:Int),0,[⟨0,0⟩],()) ⟨0,by omega,rfl⟩ (by show n-0<18446744073709551616;omega)
 rw [e,zGL]
 dsimp only
 rw [en m hm]
 obtain ⟨o,e,rfl⟩:=xV (f:=zdR) (fun a=>∃i:Nat,i<=m/\a=((m:Int),(i:Int),Xk n i,())) (fun a=>m-a.2.1.toNat) (fun o=>o= .brk (Xk n m,())) (by
  rintro _ ⟨i,hi,rfl⟩
  rw [zqe,zj]
  by_cases c1:(i:Int)<(m:Int)
  ·rw [if_pos c1,yz (by omega),yq (by simp [Xk,zlm];omega),zGL]
   refine ⟨_,rfl,⟨i+1,by omega,?_⟩,?_⟩
   ·unfold Xk
    rw [zt7,show ((i+1:Nat):Int)=(i:Int)+1 by omega];simp
   ·show m-((i+1:Nat):Int).toNat<m-(i:Int).toNat
    omega
  ·rw [if_neg c1]
   have:i=m:=by omega
   subst this
   exact ⟨_,rfl,rfl⟩) ((m:Int),0,⟨0,0⟩::zav 1 n,()) ⟨0,by omega,by unfold Xk zav;simp⟩ (by show m-0<18446744073709551616;omega)
 rw [e];rfl
def uA (l:List zg):Nat->za->za×Int
 | 0,s=>(s,0)
 | k+1,s=>if s.Done=true then (s,0) else ((uA l k (uJ s l).1).1,(uA l k (uJ s l).1).2+1)
theorem zp6 (l:List zg) (k:Nat) (s:za):uA l (k+1) s=if s.Done=true then (s,0) else ((uA l k (uJ s l).1).1,(uA l k (uJ s l).1).2+1):=rfl
theorem zwQ {p:zb}{nb:Nat}{s:za}(h:zB p) (E:EOk p nb s) {most:Nat}(hmost:most<1000000000) :
  zap s (most:Int)=some ((uA (Xk s.Ws.length s.Ms.length) most s).1,(uA (Xk s.Ws.length s.Ms.length) most s).2,()):=by
 have hw:=h.wk
 have hm:=h.mt
 have hwl:=E.wl
 have hml:=E.ml
 rw [zp9,zBr (by omega) (by omega),zGL]
 have hlen:(Xk s.Ws.length s.Ms.length).length<1000000:=by simp [Xk,zlm];omega
 dsimp only
 generalize Xk s.Ws.length s.Ms.length=l at hlen
 obtain ⟨o,e,ho⟩:=xV (f:=zaE) (fun a=>∃(i:Nat) (t:za),i<=most/\EOk p nb t/\a=((most:Int),l,(i:Int),t,0,0,0,0,0,0,0,0,0,0#64,0,zq.mk 0#64 0#64,0,0,false,false,0,0,0,0,zw.mk 0 0,([]:List (List Int)),([]:List (List Int)),([]:List (List zm)),([]:List zg),([]:List (List Int)),([]:List (BitVec 64)),([]:List (List Int)),([]:List Int),([]:List Int),([]:List zh),([]:List zc),())/\(uA l most s).1=(uA l (most-i) t).1/\(uA l most s).2=(i:Int)+(uA l (most-i) t).2) (fun a=>most-a.2.2.1.toNat)
  (fun o=>o= .brk ((uA l most s).2,(uA l most s).1,0,0,0,0,0,0,0,0,0,0#64,0,zq.mk 0#64 0#64,0,0,false,false,0,0,0,0,zw.mk 0 0,([]:List (List Int)),([]:List (List Int)),([]:List (List zm)),([]:List zg),([]:List (List Int)),([]:List (BitVec 64)),([]:List (List Int)),([]:List Int),([]:List Int),([]:List zh),([]:List zc),())) (by
  rintro _ ⟨i,t,hi,F,rfl,r1,r2⟩
  rw [zm2,zj]
  by_cases c1:(i:Int)<(most:Int)
  ·obtain ⟨k,hk⟩:∃k,most-i=k+1:=⟨most-i-1,by omega⟩
   rw [hk,zp6] at r1 r2
   rw [if_pos c1]
   cases hD:t.Done with
   | true =>
    rw [if_pos hD] at r1 r2
    refine ⟨_,rfl,?_⟩
    rw [r1,r2];simp
   | false =>
    rw [if_neg (by rw [hD];decide)] at r1 r2
    rw [Bool.not_false,cond_true,zdO h F hlen,zGL,zV (by omega) (by omega),show (i:Int)+1=((i+1:Nat):Int) by omega]
    refine ⟨_,rfl,⟨i+1,(uJ t l).1,by omega,zxe h l F,rfl,?_,?_⟩,?_⟩
    ·rw [r1,show most-(i+1)=k by omega]
    ·rw [r2,show most-(i+1)=k by omega];dsimp only;omega
    ·show most-((i+1:Nat):Int).toNat<most-(i:Int).toNat
     omega
  ·rw [if_neg c1]
   have ei:i=most:=by omega
   subst ei
   rw [Nat.sub_self] at r1 r2
   refine ⟨_,rfl,?_⟩
   rw [r1,r2]
   show _=yC.brk (((i:Int)+(uA l 0 t).2),(uA l 0 t).1,0,0,0,0,0,0,0,0,0,0#64,0,zq.mk 0#64 0#64,0,0,false,false,0,0,0,0,zw.mk 0 0,([]:List (List Int)),([]:List (List Int)),([]:List (List zm)),([]:List zg),([]:List (List Int)),([]:List (BitVec 64)),([]:List (List Int)),([]:List Int),([]:List Int),([]:List zh),([]:List zc),())
   simp [uA]) ((most:Int),l,0,s,0,0,0,0,0,0,0,0,0,0#64,0,zq.mk 0#64 0#64,0,0,false,false,0,0,0,0,zw.mk 0 0,([]:List (List Int)),([]:List (List Int)),([]:List (List zm)),([]:List zg),([]:List (List Int)),([]:List (BitVec 64)),([]:List (List Int)),([]:List Int),([]:List Int),([]:List zh),([]:List zc),()) ⟨0,s,by omega,E,rfl,by rw [Nat.sub_zero],by rw [Nat.sub_zero];omega⟩ (by show most-0<18446744073709551616;omega)
 rw [e,ho];rfl
end
end Go.Pe.G
namespace Go.Pe.G
open Go.Pe
noncomputable section
namespace B19
theorem zEL {a b:Int}(ha:0<=a) (hb:0<b):0<=a.tmod b/\a.tmod b<b:=by
 rw [Int.tmod_eq_emod_of_nonneg ha]
 exact ⟨Int.emod_nonneg _ (by omega),Int.emod_lt_of_pos _ hb⟩
theorem zr3 {p:zb}(ord:List (BitVec 8)) (n:Nat) (hn:n<1000000) (i:Nat) (hi:i<ord.length) (x:zg) (hx:YH p x) (l:List zg) (hl:l.length<n) (hp:∀y∈l,YH p y) :
  ∃o,zP vA (ord,(n:Int),(i:Int),0,p,l,x,())=some o/\∃l',o= .brk (ord,(n:Int),(i:Int),p,l',())/\(l.length<l'.length/\l'.length<=n)/\∀y∈l',YH p y:=by
 have hb:=ord[i].isLt
 have hdv:w64 (((ord[i]).toNat:Int).tdiv 64)=((ord[i].toNat/64:Nat):Int):=by rw [zV (by rw [Int.tdiv_eq_ediv_of_nonneg (by omega)];omega) (by rw [Int.tdiv_eq_ediv_of_nonneg (by omega)];omega),Int.tdiv_eq_ediv_of_nonneg (by omega)];omega
 refine xV (f:=vA) (fun a=>∃(k:Nat) (l':List zg),k<=5/\a=(ord,(n:Int),(i:Int),(k:Int),p,l',x,())/\(((k=0/\l'=l)\/l.length<l'.length)/\l'.length<=n)/\∀y∈l',YH p y) (fun a=>10-a.2.2.2.1.toNat) (fun o=>∃l',o= .brk (ord,(n:Int),(i:Int),p,l',())/\(l.length<l'.length/\l'.length<=n)/\∀y∈l',YH p y) ?_ _ ⟨0,l,by omega,rfl,⟨.inl ⟨rfl,rfl⟩,by omega⟩,hp⟩ (by show 10-0<18446744073709551616;decide)
 rintro _ ⟨k,l',hk,rfl,hl',hp'⟩
 rw [ziV,xu (zGN hi),zGL,hdv,zj]
 by_cases c1:(k:Int)<=((ord[i].toNat/64:Nat):Int)
 ·rw [if_pos c1,zj]
  by_cases c2:(l'.length:Int)<(n:Int)
  ·rw [if_pos c2,yq (by simp;omega),zGL,yz (by omega)]
   refine ⟨_,rfl,⟨k+1,l'++[x],by omega,rfl,⟨.inr ?_,by simp;omega⟩,fun y hy=>?_⟩,?_⟩
   ·rcases hl'.1 with ⟨_,rfl⟩ | h
    ·simp
    ·simp;omega
   ·rcases zG8.1 hy with hy | hy
    ·exact hp' y hy
    ·rw [zHo.1 hy];exact hx
   ·show 10-((k+1:Nat):Int).toNat<10-(k:Int).toNat
    omega
  ·rw [if_neg c2]
   refine ⟨_,rfl,l',rfl,⟨?_,hl'.2⟩,hp'⟩
   rcases hl'.1 with ⟨_,rfl⟩ | h
   ·omega
   ·exact h
 ·rw [if_neg c1]
  refine ⟨_,rfl,l',rfl,⟨?_,hl'.2⟩,hp'⟩
  rcases hl'.1 with ⟨rfl,rfl⟩ | h
  ·exact absurd (Int.natCast_nonneg _) c1
  ·exact h
theorem zDz {p:zb}(h:zB p) (ord:List (BitVec 8)) (n:Nat) (hn:n<1000000):∃l,W3 p ord (n:Int)=some (l,())/\l.length<=n/\∀x∈l,YH p x:=by
 have hw:=h.wk
 have hm:=h.mt
 have e1:w64 (w64 (1+p.Workers)+p.Mutators)=1+p.Workers+p.Mutators:=by rw [zV (a:=1+p.Workers) (by omega) (by omega),zV (by omega) (by omega)]
 obtain ⟨o,e,l,rfl,h1,h2⟩:=xV (f:=V1) (fun a=>∃(i:Nat) (l:List zg),i<=l.length/\a=(ord,(n:Int),(i:Int),p,l,())/\l.length<=n/\∀y∈l,YH p y) (fun a=>n+1-a.2.2.1.toNat) (fun o=>∃l,o= .brk (l,())/\l.length<=n/\∀y∈l,YH p y) (by
  rintro _ ⟨i,l,hi,rfl,hl,hp⟩
  rw [zkj,zj]
  by_cases c1:(i:Int)<(ord.length:Int)
  rotate_left
  ·rw [if_neg c1];exact ⟨_,rfl,l,rfl,hl,hp⟩
  rw [if_pos c1,zj]
  by_cases c2:(l.length:Int)<(n:Int)
  rotate_left
  ·rw [if_neg c2];exact ⟨_,rfl,l,rfl,hl,hp⟩
  have hil:i<ord.length:=by omega
  have ht:=zEL (show (0:Int)<=(ord[i].toNat:Int) by omega) (show (0:Int)<1+p.Workers+p.Mutators by omega)
  have fin:∀ {l':List zg},(l.length<l'.length/\l'.length<=n)->(∀y∈l',YH p y)->(∃(j:Nat) (q:List zg),j<=q.length/\(ord,(n:Int),((i+1:Nat):Int),p,l',())=(ord,(n:Int),(j:Int),p,q,())/\q.length<=n/\∀y∈q,YH p y)/\n+1-((i+1:Nat):Int).toNat<n+1-(i:Int).toNat:=fun {l'} h1 h2=>⟨⟨i+1,l',by omega,rfl,h1.2,h2⟩,by omega⟩
  rw [if_pos c2,xu (zGN hil),zGL,e1,zj,if_neg (by omega),zj]
  generalize (ord[i].toNat:Int).tmod (1+p.Workers+p.Mutators)=t at ht
  by_cases c3:p.Workers<t
  ·rw [if_pos c3,zV (by omega) (by omega)]
   obtain ⟨o,e,l',rfl,h1,h2⟩:=zr3 ord n hn i hil ⟨2,t-p.Workers⟩ (.inr (.inr ⟨rfl,by show 1<=t-p.Workers;omega,by show t-p.Workers<=p.Mutators;omega⟩)) l (by omega) hp
   rw [e,zGL]
   dsimp only
   rw [yz (by omega)]
   exact ⟨_,rfl,fin h1 h2⟩
  rw [if_neg c3,zj]
  by_cases c4:0<t
  ·rw [if_pos c4]
   obtain ⟨o,e,l',rfl,h1,h2⟩:=zr3 ord n hn i hil ⟨1,t⟩ (.inr (.inl ⟨rfl,by show 1<=t;omega,by show t<=p.Workers;omega⟩)) l (by omega) hp
   rw [e,zGL]
   dsimp only
   rw [yz (by omega)]
   exact ⟨_,rfl,fin h1 h2⟩
  ·rw [if_neg c4]
   obtain ⟨o,e,l',rfl,h1,h2⟩:=zr3 ord n hn i hil ⟨0,0⟩ (.inl ⟨rfl,rfl⟩) l (by omega) hp
   rw [e,zGL]
   dsimp only
   rw [yz (by omega)]
   exact ⟨_,rfl,fin h1 h2⟩) (ord,(n:Int),0,p,[],()) ⟨0,[],by simp,rfl,by simp,fun y hy=>by cases hy⟩ (by show n+1-0<18446744073709551616;omega)
 refine ⟨l,?_,h1,h2⟩
 rw [znx,e];rfl
end B19
end
end Go.Pe.G
namespace Go.Pe.G
open Go.Pe
noncomputable section
theorem Zs {α S σ B C:Type}{f:σ->Option (yC σ B C)}(A:Int->S->σ) (b:S->B) (l:List α) (hl:l.length<1000000) (g:S->α->S) (Inv:Nat->S->Prop) {s:S}(h0:Inv 0 s)
  (h1:∀(i:Nat) s x,l[i]? =some x->i<l.length->Inv i s->Inv (i+1) (g s x)/\f (A (i:Int) s)=some (.again (A ((i+1:Nat):Int) (g s x)))) (h2:∀s,Inv l.length s->f (A (l.length:Int) s)=some (.brk (b s))) :
  zP f (A 0 s)=some (.brk (b (l.foldl g s)))/\Inv l.length (l.foldl g s):=by
 have key:∀(k i:Nat) (s:S),l.length-i=k->i<=l.length->Inv i s->(∀m,k<m->xw f m (A (i:Int) s)=some (.brk (b ((l.drop i).foldl g s))))/\Inv l.length ((l.drop i).foldl g s):=by
  intro k
  induction k with
  | zero =>
   intro i s hk hi hs
   have:i=l.length:=by omega
   subst this
   rw [List.drop_length]
   refine ⟨fun m hm=>?_,hs⟩
   obtain ⟨m,rfl⟩:∃x,m=x+1:=⟨m-1,by omega⟩
   simp only [xw]
   rw [h2 s hs];rfl
  | succ k ih =>
   intro i s hk hi hs
   have hx:=zGN (show i<l.length by omega)
   have hd:=zHz (show i<l.length by omega)
   generalize l[i]'(by omega)=x at hx hd
   obtain ⟨h3,h4⟩:=h1 i s x hx (by omega) hs
   obtain ⟨h5,h6⟩:=ih (i+1) (g s x) (by omega) (by omega) h3
   rw [hd]
   refine ⟨fun m hm=>?_,h6⟩
   obtain ⟨m,rfl⟩:∃x,m=x+1:=⟨m-1,by omega⟩
   simp only [xw]
   rw [h4,zGL]
   exact h5 m (by omega)
 obtain ⟨k1,k2⟩:=key l.length 0 s (by omega) (by omega) h0
 refine ⟨?_,k2⟩
 rw [Wf]
 exact k1 vQ (ve (by omega))
end
end Go.Pe.G
namespace Go.Pe.G
open Go.Pe
noncomputable section
def zuH (x:Int):List Int->List Int
 | []=>[x]
 | y::l=>if x<=y then x::y::l else y::zuH x l
def ud:List Int->List Int
 | []=>[]
 | x::l=>zuH x (ud l)
theorem zp1 (x:Int):∀l,List.Perm (zuH x l) (x::l)
 | []=>zHb _
 | y::l=>by
  unfold zuH
  split
  ·exact zHb _
  ·exact ((zp1 x l).cons y).trans (List.Perm.swap x y l)
theorem W5:∀l,List.Perm (ud l) l
 | []=>zHb _
 | x::l=>(zp1 x (ud l)).trans ((W5 l).cons x)
theorem zrv (x:Int):∀l,List.Pairwise (fun a b:Int=>a<=b) l->List.Pairwise (fun a b:Int=>a<=b) (zuH x l)
 | [],_=>List.pairwise_singleton _ _
 | y::l,h=>by
  rw [zH3] at h
  unfold zuH
  split
  ·rename_i hx
   refine zH3.2 ⟨fun z hz=>?_,zH3.2 h⟩
   rcases zG7.1 hz with rfl | hz
   ·exact hx
   ·have:=h.1 z hz;omega
  ·rename_i hx
   refine zH3.2 ⟨fun z hz=>?_,zrv x l h.2⟩
   rcases zG7.1 ((zp1 x l).mem_iff.1 hz) with rfl | hz
   ·omega
   ·exact h.1 z hz
theorem zcd:∀l,List.Pairwise (fun a b:Int=>a<=b) (ud l)
 | []=>List.Pairwise.nil
 | x::l=>zrv x _ (zcd l)
theorem zpE {l m:List Int}(hl:List.Pairwise (fun a b:Int=>a<=b) l) (hm:List.Pairwise (fun a b:Int=>a<=b) m) (h:List.Perm l m):l=m :=
 List.Perm.eq_of_pairwise (fun a b _ _ h1 h2=>Int.le_antisymm h1 h2) hl hm h
theorem zBp (l:List Int):xT l=ud l:=by
 refine zpE ?_ (zcd l) ((List.mergeSort_perm l _).trans (W5 l).symm)
 have:=List.pairwise_mergeSort (le:=fun x y:Int=>decide (x<=y)) (fun a b c h1 h2=>by simp only [decide_eq_true_eq] at *;omega) (fun a b=>by simp only [zHR,decide_eq_true_eq];omega) l
 exact this.imp (fun h=>by simpa using h)
theorem zz5 {l m:List Int}(h:List.Perm l m):ud l=ud m:=zpE (zcd l) (zcd m) ((W5 l).trans (h.trans (W5 m).symm))
theorem zDu (l:List Int):(ud l).length=l.length:=(W5 l).length_eq
theorem zC6 (a b:List Int):ud (ud a++b)=ud (a++b):=zz5 ((W5 a).append_right b)
theorem zv4 {l:List Int}(h:l.length<4294967296):zqL l=some (ud l,()):=by
 rw [zBc]
 unfold zng
 rw [decide_eq_true (by omega),zBp];rfl
end
end Go.Pe.G
namespace Go.Pe.G
open Go.Pe
noncomputable section
def ZJ (p:zb) (w:Int) (i:Nat):Int:=zI p w+2+((i%p.Cap.toNat:Nat):Int)
structure DQ (p:zb) (m:List (BitVec 64)) (w:Int) (t:Nat) (l:List Int) (c:Nat):Prop where
 top:ld m (zI p w)=BitVec.ofNat 64 t
 bot:ld m (zI p w+1)=BitVec.ofNat 64 (t+l.length-c)
 c1:c<=1
 t1:1<=t
 cap:l.length<=p.Cap.toNat
 small:t+l.length<4294967296
 cell:∀(i:Nat) (hi:i<l.length),(ld m (ZJ p w (t+i))).toInt=l[i]
theorem DQ.keep {p:zb}(h:zB p) {m m':List (BitVec 64)}{w:Int}{t c:Nat}{l:List Int}(D:DQ p m w t l c) (hm:∀a,zI p w<=a->a<zI p w+p.Cap+2->ld m' a=ld m a):DQ p m' w t l c:=by
 have hc:=h.cap
 refine ⟨by rw [hm _ (by omega) (by omega)];exact D.top,by rw [hm _ (by omega) (by omega)];exact D.bot,D.c1,D.t1,D.cap,D.small,fun i hi=>?_⟩
 have:=Nat.mod_lt (t+i) (show 0<p.Cap.toNat by omega)
 rw [hm _ (by unfold ZJ;omega) (by unfold ZJ;omega)]
 exact D.cell i hi
theorem ZA {n:Nat}(h:n<18446744073709551616):(BitVec.ofNat 64 n).toNat=n:=by rw [BitVec.toNat_ofNat];omega
theorem zgX {a b:Nat}(h:b<=a) (h2:a<18446744073709551616):BitVec.ofNat 64 a-BitVec.ofNat 64 b=BitVec.ofNat 64 (a-b):=by
 apply zH2
 rw [BitVec.toNat_sub,ZA h2,ZA (by omega),ZA (by omega)]
 omega
theorem zc3 {a b:Nat}(h2:a+b<18446744073709551616):BitVec.ofNat 64 a+BitVec.ofNat 64 b=BitVec.ofNat 64 (a+b):=by
 apply zH2
 rw [BitVec.toNat_add,ZA (by omega),ZA (by omega),ZA (by omega)]
 omega
theorem zv5 {a b:Nat}(h:a<18446744073709551616) (h2:b<18446744073709551616) (e:BitVec.ofNat 64 a=BitVec.ofNat 64 b):a=b:=by
 have:=congrArg BitVec.toNat e
 rwa [ZA h,ZA h2] at this
theorem zgS {a b:Nat}(h:a<4294967296) (h2:b<4294967296):0<(BitVec.ofNat 64 a-BitVec.ofNat 64 b).toInt↔b<a:=by
 rw [zIt,BitVec.toNat_sub,ZA (by omega),ZA (by omega)]
 omega
theorem zEg {t i n c:Nat}(hi:i<n) (hn:n<t+c) (ht:t<=i) (e:i%c=n%c):False:=by
 have h1:=Nat.div_add_mod i c
 have h2:=Nat.div_add_mod n c
 have hc:0<c:=by omega
 rw [e] at h1
 have h3:c*(n/c)=c*(i/c)+(n-i):=by omega
 rcases zHk (i/c) (n/c) with h | h
 ·have:c*(i/c)+c<=c*(n/c):=by
   have:=Nat.mul_le_mul_left c h
   rw [Nat.succ_eq_add_one,Nat.mul_add,zHF] at this
   exact this
  omega
 ·have:=Nat.mul_le_mul_left c h
  omega
theorem zgs {p:zb}(h:zB p) {d:zd}{w:Int}(hw:1<=w/\w<=p.Workers) (hb:d.Base=zI p w) (hc:d.Cap=p.Cap) {i:Nat}(hi:i<4294967296):YN d (BitVec.ofNat 64 i)=ZJ p w i:=by
 rw [(zrR h hw.1 hw.2 hb hc _).1,ZA (by omega),hb];rfl
structure DK (p:zb) (m:List (BitVec 64)) (w:Int) (t:Nat) (l:List Int) (c:Nat) (d:zd):Prop where
 kind:d.Kind=1
 base:d.Base=zI p w
 size:d.Cap=p.Cap
 out:d.Out=0
 c0:c=0
 pc:0<=d.PC/\d.PC<=3
 b:1<=d.PC->d.B=BitVec.ofNat 64 (t+l.length)
 r:2<=d.PC->l.length<p.Cap.toNat
 x:3<=d.PC->(ld m (ZJ p w (t+l.length))).toInt=d.X
structure PK (p:zb) (m:List (BitVec 64)) (w:Int) (t:Nat) (l:List Int) (c:Nat) (d:zd):Prop where
 kind:d.Kind=2
 base:d.Base=zI p w
 size:d.Cap=p.Cap
 out:d.Out=0
 pc:0<=d.PC/\d.PC<=6
 c0:d.PC<=1->c=0
 c1:d.PC=2\/4<=d.PC->c=1
 b:d.PC=1\/d.PC=2\/4<=d.PC\/(d.PC=3/\d.T=d.B-1#64)->d.B=BitVec.ofNat 64 (t+l.length)
 c3:d.PC=3->d.T=d.B-1#64->c=1
 n3:d.PC=3->d.T≠d.B-1#64->c=0/\d.B=BitVec.ofNat 64 (t+l.length+1)/\t+l.length+1<4294967296/\l.length+1<=p.Cap.toNat
 t3:d.PC=3\/d.PC=4->d.T.toNat<=t
 t4:d.PC=4->d.T=d.B-1#64
 x4:d.PC=4->d.T.toNat=t->l=[d.X]
 e5:5<=d.PC->l=[]
def ZN (m:List (BitVec 64)) (d:zd):List Int :=
 if d.PC=3/\d.T≠d.B-1#64 then [(ld m (YN d (d.B-1#64))).toInt] else if d.PC=6 then [d.X] else []
structure TK (p:zb) (m:List (BitVec 64)) (w:Int) (t:Nat) (l:List Int) (d:zd):Prop where
 kind:d.Kind=3
 base:d.Base=zI p w
 size:d.Cap=p.Cap
 out:d.Out=0
 pc:0<=d.PC/\d.PC<=3
 le:1<=d.PC->d.T.toNat<=t
 ne:2<=d.PC->d.T.toNat=t->l≠[]
 hd:d.PC=3->d.T.toNat=t->l.head? =some d.X
structure Dv (t:Nat) (l:List Int) (t':Nat) (l':List Int):Prop where
 le:t<=t'
 hd:t'=t->l≠[]->l'≠[]/\l'.head? =l.head?
theorem Dv.refl (t:Nat) (l:List Int):Dv t l t l:=⟨zGQ _,fun _ h=>⟨h,rfl⟩⟩
theorem TK.dv {p:zb}{m m':List (BitVec 64)}{w:Int}{t t':Nat}{l l':List Int}{d:zd}(K:TK p m w t l d) (V:Dv t l t' l'):TK p m' w t' l' d:=by
 have h1:=V.le
 refine ⟨K.kind,K.base,K.size,K.out,K.pc,fun h=>zHP (K.le h) h1,fun h e=>?_,fun h e=>?_⟩
 ·have:=K.le (by omega)
  have et:t'=t:=by omega
  exact (V.hd et (K.ne h (by omega))).1
 ·have:=K.le (by omega)
  have et:t'=t:=by omega
  rw [(V.hd et (K.ne (by omega) (by omega))).2]
  exact K.hd h (by omega)
theorem zBq {p:zb}(h:zB p) {m:List (BitVec 64)}{w:Int}{t c:Nat}{l:List Int}{d:zd}(hw:1<=w/\w<=p.Workers) (hlen:zZ p<=m.length) (D:DQ p m w t l c) (K:TK p m w t l d) :
  ((zT m d).1=m/\(((zT m d).2.Out=0/\TK p m w t l (zT m d).2)\/(zT m d).2.Out=2\/(zT m d).2.Out=4)) \/
  (∃x l',l=x::l'/\(zT m d).2.Out=1/\(zT m d).2.X=x/\DQ p (zT m d).1 w (t+1) l' c/\(∀a,a≠zI p w->ld (zT m d).1 a=ld m a)):=by
 have hc:=h.cap
 have hd:=Yl h hw.1 hw.2
 have hf:=Zx h
 have hpc:=K.pc
 have hsm:=D.small
 have ht1:=D.t1
 have hc1:=D.c1
 have eb:wc (d.Base+1)=zI p w+1:=by rw [K.base,xr (by omega) (by omega)]
 have k:=K.kind
 unfold zT
 rw [if_neg (by have:=K.out;omega),if_neg (by omega),if_neg (by omega),if_pos k]
 unfold zbj
 rw [if_neg (by omega),eb]
 by_cases c0:d.PC=0
 ·rw [if_pos c0]
  exact .inl ⟨rfl,.inl ⟨K.out,⟨k,K.base,K.size,K.out,⟨by dsimp only;omega,by dsimp only;omega⟩,fun _=>by dsimp only;rw [K.base,D.top,ZA (by omega)];exact zGQ _,fun e=>by dsimp only at e;omega,fun e=>by dsimp only at e;omega⟩⟩⟩
 rw [if_neg c0]
 have hT:=K.le (by omega)
 by_cases c1:d.PC=1
 ·rw [if_pos c1]
  left
  refine ⟨rfl,?_⟩
  by_cases hs:0<(ld m (zI p w+1)-d.T).toInt
  ·left
   dsimp only
   rw [if_pos hs]
   refine ⟨K.out,⟨k,K.base,K.size,K.out,⟨by dsimp only;omega,by dsimp only;omega⟩,fun _=>hT,fun _ e=>?_,fun e=>by dsimp only at e;omega⟩⟩
   have e:d.T.toNat=t:=e
   have eT:d.T=BitVec.ofNat 64 t:=by apply zH2;rw [ZA (by omega)];exact e
   rw [D.bot,eT] at hs
   have:=(zgS (by omega) (by omega)).1 hs
   intro el
   rw [el] at this
   simp at this
   omega
  ·right;left
   dsimp only
   rw [if_neg hs]
 rw [if_neg c1]
 by_cases c2:d.PC=2
 ·rw [if_pos c2]
  left
  refine ⟨rfl,.inl ⟨K.out,⟨k,K.base,K.size,K.out,⟨by dsimp only;omega,by dsimp only;omega⟩,fun _=>hT,fun _ e=>K.ne (by omega) e,fun _ e=>?_⟩⟩⟩
  have e:d.T.toNat=t:=e
  have eT:d.T=BitVec.ofNat 64 t:=by apply zH2;rw [ZA (by omega)];exact e
  have hn:=K.ne (by omega) e
  cases l with
  | nil=>exact absurd rfl hn
  | cons x l =>
   have:=D.cell 0 (by simp)
   dsimp only
   rw [eT,zgs h hw K.base K.size (by omega)]
   rw [zHr] at this
   rw [this];rfl
 rw [if_neg c2]
 have c3:d.PC=3:=by omega
 by_cases hs:ld m d.Base=d.T
 ·right
  have eT:d.T.toNat=t:=by rw [<-hs,K.base,D.top,ZA (by omega)]
  have eT':d.T=BitVec.ofNat 64 t:=by rw [<-hs,K.base,D.top]
  have hx:=K.hd c3 eT
  have hn:=K.ne (by omega) eT
  have hsw:sw m d.Base d.T (d.T+1#64)=(st m d.Base (d.T+1#64),true):=by unfold sw;rw [if_pos ⟨by rw [K.base];omega,by rw [K.base];omega,hs⟩]
  rw [hsw]
  cases l with
  | nil=>exact absurd rfl hn
  | cons x l =>
   have hx:x=d.X:=by simpa using hx
   have hmod:∀i,zI p w+2<=ZJ p w i:=fun i=>by unfold ZJ;omega
   have hlc:=D.cap
   rw [zG6] at hlc hsm
   refine ⟨x,l,rfl,rfl,hx.symm,⟨?_,?_,hc1,by omega,by omega,by omega,fun i hi=>?_⟩,fun a ha=>?_⟩
   ·dsimp only
    rw [K.base,Wl,if_pos ⟨rfl,by omega,by omega⟩,eT']
    exact zc3 (by omega)
   ·dsimp only
    rw [K.base,yp (by omega),D.bot,zG6]
    congr 1
    omega
   ·dsimp only
    have:=hmod (t+1+i)
    rw [K.base,yp (by omega)]
    have:=D.cell (i+1) (by simp;omega)
    rw [show t+(i+1)=t+1+i by omega] at this
    simpa using this
   ·dsimp only
    rw [K.base,yp (fun e=>ha e.symm)]
 ·left
  have hsw:sw m d.Base d.T (d.T+1#64)=(m,false):=by unfold sw;rw [if_neg (fun e=>hs e.2.2)]
  rw [hsw]
  exact ⟨rfl,.inr (.inr rfl)⟩
theorem vz {m:List (BitVec 64)}{d:zd}(h:d.PC≠3\/d.T=d.B-1#64) (h2:d.PC≠6):ZN m d=[]:=by
 unfold ZN
 rw [if_neg (fun e=>h.elim (fun f=>f e.1) (fun f=>e.2 f)),if_neg h2]
theorem zyH {p:zb}(h:zB p) {m:List (BitVec 64)}{w:Int}{t c:Nat}{l:List Int}{d:zd}(hw:1<=w/\w<=p.Workers) (hlen:zZ p<=m.length) (D:DQ p m w t l c) (K:PK p m w t l c d) :
  ∃t' l' c',DQ p (zT m d).1 w t' l' c'/\(∀a,a≠zI p w->a≠zI p w+1->ld (zT m d).1 a=ld m a)/\Dv t l t' l'/\t'+l'.length<=t+l.length /\
   (((zT m d).2.Out=0/\PK p (zT m d).1 w t' l' c' (zT m d).2/\List.Perm (l'++ZN (zT m d).1 (zT m d).2) (l++ZN m d)) \/
    ((zT m d).2.Out=1/\c'=0/\List.Perm (l'++[(zT m d).2.X]) (l++ZN m d)) \/
    ((zT m d).2.Out=2/\c'=0/\l'=[]/\l=[]/\ZN m d=[])):=by
 have hc:=h.cap
 have hd:=Yl h hw.1 hw.2
 have hf:=Zx h
 have hpc:=K.pc
 have hsm:=D.small
 have ht1:=D.t1
 have hc1:=D.c1
 have eb:wc (d.Base+1)=zI p w+1:=by rw [K.base,xr (by omega) (by omega)]
 have k:=K.kind
 have one:(1#64:BitVec 64)=BitVec.ofNat 64 1:=rfl
 have hmod:∀i,zI p w+2<=ZJ p w i/\ZJ p w i<zI p w+p.Cap+2:=fun i=>by
  have:=Nat.mod_lt i (show 0<p.Cap.toNat by omega)
  unfold ZJ;omega
 have stb:∀(c':Nat) (v:BitVec 64),c'<=1->v=BitVec.ofNat 64 (t+l.length-c')->DQ p (st m (zI p w+1) v) w t l c'/\(∀a,a≠zI p w->a≠zI p w+1->ld (st m (zI p w+1) v) a=ld m a):=by
  intro c' v h1 h2
  refine ⟨⟨by rw [yp (by omega)];exact D.top,by rw [Wl,if_pos ⟨rfl,by omega,by omega⟩];exact h2,h1,ht1,D.cap,hsm,fun i hi=>by rw [yp (by have:=hmod (t+i);omega)];exact D.cell i hi⟩,fun a _ h2=>yp (fun e=>h2 e.symm)⟩
 unfold zT
 rw [if_neg (by have:=K.out;omega),if_neg (by omega),if_pos k]
 unfold zi0
 rw [if_neg (by omega),eb]
 by_cases p0:d.PC=0
 ·rw [if_pos p0]
  have hc0:=K.c0 (by omega)
  refine ⟨t,l,c,D,fun _ _ _=>rfl,Dv.refl _ _,zGQ _,.inl ⟨K.out,⟨k,K.base,K.size,K.out,⟨by dsimp only;omega,by dsimp only;omega⟩,fun _=>hc0,fun e=>by dsimp only at e;omega,fun _=>?_,fun e=>by dsimp only at e;omega,fun e=>by dsimp only at e;omega,fun e=>by dsimp only at e;omega,fun e=>by dsimp only at e;omega,fun e=>by dsimp only at e;omega,fun e=>by dsimp only at e;omega⟩,?_⟩⟩
  ·dsimp only;rw [D.bot,hc0];rfl
  ·rw [vz (.inl (by dsimp only;omega)) (by dsimp only;omega),vz (.inl (by omega)) (by omega)]
 rw [if_neg p0]
 by_cases p1:d.PC=1
 ·rw [if_pos p1]
  have hB:=K.b (.inl p1)
  have eB:d.B-1#64=BitVec.ofNat 64 (t+l.length-1):=by rw [hB,one,zgX (by omega) (by omega)]
  obtain ⟨D',hm⟩:=stb 1 (d.B-1#64) (by omega) eB
  refine ⟨t,l,1,D',hm,Dv.refl _ _,zGQ _,.inl ⟨K.out,⟨k,K.base,K.size,K.out,⟨by dsimp only;omega,by dsimp only;omega⟩,fun e=>by dsimp only at e;omega,fun _=>rfl,fun _=>hB,fun e=>by dsimp only at e;omega,fun e=>by dsimp only at e;omega,fun e=>by dsimp only at e;omega,fun e=>by dsimp only at e;omega,fun e=>by dsimp only at e;omega,fun e=>by dsimp only at e;omega⟩,?_⟩⟩
  rw [vz (.inl (by dsimp only;omega)) (by dsimp only;omega),vz (.inl (by omega)) (by omega)]
 rw [if_neg p1]
 by_cases p2:d.PC=2
 ·rw [if_pos p2]
  have hB:=K.b (.inr (.inl p2))
  have hc':=K.c1 (.inl p2)
  have eB:d.B-1#64=BitVec.ofNat 64 (t+l.length-1):=by rw [hB,one,zgX (by omega) (by omega)]
  have eT:ld m d.Base=BitVec.ofNat 64 t:=by rw [K.base];exact D.top
  rw [vz (d:=d) (.inl (by omega)) (by omega),zGO]
  by_cases hs:0<(ld m d.Base-(d.B-1#64)).toInt
  ·have hs':=hs
   rw [eT,eB] at hs'
   have:=(zgS (by omega) (by omega)).1 hs'
   have el:l=[]:=by cases l with | nil=>rfl | cons a l=>rw [zG6] at this;omega
   rw [if_pos hs]
   refine ⟨t,l,c,D,fun _ _ _=>rfl,Dv.refl _ _,zGQ _,.inl ⟨K.out,⟨k,K.base,K.size,K.out,⟨by dsimp only;omega,by dsimp only;omega⟩,fun e=>by dsimp only at e;omega,fun _=>hc',fun _=>hB,fun e=>by dsimp only at e;omega,fun e=>by dsimp only at e;omega,fun e=>by dsimp only at e;omega,fun e=>by dsimp only at e;omega,fun e=>by dsimp only at e;omega,fun _=>el⟩,?_⟩⟩
   rw [vz (.inl (by dsimp only;omega)) (by dsimp only;omega),zGO]
  ·have hs':=hs
   rw [eT,eB] at hs'
   have hle: ¬(t+l.length-1<t):=fun e=>hs' ((zgS (by omega) (by omega)).2 e)
   rw [if_neg hs]
   by_cases h1:l.length=1
   ·have e3:ld m d.Base=d.B-1#64:=by rw [eT,eB];congr 1;omega
    refine ⟨t,l,c,D,fun _ _ _=>rfl,Dv.refl _ _,zGQ _,.inl ⟨K.out,⟨k,K.base,K.size,K.out,⟨by dsimp only;omega,by dsimp only;omega⟩,fun e=>by dsimp only at e;omega,fun e=>by dsimp only at e;omega,fun _=>hB,fun _ _=>hc',fun _ e=>absurd e3 e,fun _=>by dsimp only;rw [eT,ZA (by omega)];exact zGQ _,fun e=>by dsimp only at e;omega,fun e=>by dsimp only at e;omega,fun e=>by dsimp only at e;omega⟩,?_⟩⟩
    rw [vz (.inr e3) (by dsimp only;omega),zGO]
   ·-- the last one is the owner's
    have h2:2<=l.length:=by omega
    have e3:ld m d.Base≠d.B-1#64:=by
     rw [eT,eB]
     intro e
     have:=zv5 (by omega) (by omega) e
     omega
    have hne:l≠[]:=fun e=>by rw [e] at h2;simp at h2
    have hdl:l.dropLast.length=l.length-1:=List.length_dropLast
    refine ⟨t,l.dropLast,0,⟨D.top,?_,by omega,ht1,by have:=D.cap;omega,by omega,fun i hi=>?_⟩,fun _ _ _=>rfl,⟨zGQ _,fun _ _=>⟨fun e=>?_,?_⟩⟩,by omega,.inl ⟨K.out,⟨k,K.base,K.size,K.out,⟨by dsimp only;omega,by dsimp only;omega⟩,fun e=>by dsimp only at e;omega,fun e=>by dsimp only at e;omega,fun e=>?_,fun _ e=>absurd e e3,fun _ _=>⟨rfl,?_,by omega,by have:=D.cap;omega⟩,fun _=>by dsimp only;rw [eT,ZA (by omega)];exact zGQ _,fun e=>by dsimp only at e;omega,fun e=>by dsimp only at e;omega,fun e=>by dsimp only at e;omega⟩,?_⟩⟩
    ·rw [D.bot,hc',hdl];congr 1;omega
    ·rw [D.cell i (by omega)]
     exact (List.getElem_dropLast ..).symm
    ·have:=congrArg List.length e;rw [hdl] at this;simp at this;omega
    ·cases l with
     | nil=>exact absurd rfl hne
     | cons a l=>cases l with
      | nil=>simp at h2
      | cons b l=>rfl
    ·rcases e with e | e | e | ⟨_,e⟩
     ·dsimp only at e;omega
     ·dsimp only at e;omega
     ·dsimp only at e;omega
     ·exact absurd e e3
    ·dsimp only;rw [hB,hdl];congr 1;omega
    ·unfold ZN
     rw [if_pos ⟨rfl,e3⟩]
     dsimp only
     have ep:YN {d with T:=ld m d.Base,PC:=3} (d.B-1#64)=ZJ p w (t+(l.length-1)):=by
      rw [eB]
      have:=zgs h (d:={d with T:=ld m d.Base,PC:=3}) hw K.base K.size (i:=t+l.length-1) (by omega)
      rw [this];congr 1;omega
     rw [ep,D.cell (l.length-1) (by omega)]
     have:=List.dropLast_concat_getLast hne
     rw [List.getLast_eq_getElem] at this
     rw [this]
 rw [if_neg p2]
 by_cases p3:d.PC=3
 ·rw [if_pos p3]
  by_cases e3:d.T=d.B-1#64
  ·rw [if_pos e3]
   have hB:=K.b (.inr (.inr (.inr ⟨p3,e3⟩)))
   have hc':=K.c3 p3 e3
   have eB:d.B-1#64=BitVec.ofNat 64 (t+l.length-1):=by rw [hB,one,zgX (by omega) (by omega)]
   refine ⟨t,l,c,D,fun _ _ _=>rfl,Dv.refl _ _,zGQ _,.inl ⟨K.out,⟨k,K.base,K.size,K.out,⟨by dsimp only;omega,by dsimp only;omega⟩,fun e=>by dsimp only at e;omega,fun _=>hc',fun _=>hB,fun e=>by dsimp only at e;omega,fun e=>by dsimp only at e;omega,fun _=>K.t3 (.inl p3),fun _=>e3,fun _ e=>?_,fun e=>by dsimp only at e;omega⟩,?_⟩⟩
   ·have e:d.T.toNat=t:=e
    rw [e3,eB,ZA (by omega)] at e
    have h1:l.length=1:=by omega
    have:=D.cell 0 (by omega)
    dsimp only
    rw [eB,zgs h hw K.base K.size (by omega),show t+l.length-1=t+0 by omega,this]
    match l,h1 with
    | [a],_=>rfl
   ·rw [vz (.inl (by dsimp only;omega)) (by dsimp only;omega),vz (.inr e3) (by omega)]
  ·rw [if_neg e3]
   obtain ⟨a1,a2,a3,a4⟩:=K.n3 p3 e3
   refine ⟨t,l,c,D,fun _ _ _=>rfl,Dv.refl _ _,zGQ _,.inr (.inl ⟨rfl,a1,?_⟩)⟩
   unfold ZN
   rw [if_pos ⟨p3,e3⟩]
 rw [if_neg p3]
 by_cases p4:d.PC=4
 ·rw [if_pos p4]
  have hB:=K.b (.inr (.inr (.inl (by omega))))
  have hc':=K.c1 (.inr (by omega))
  have e3:=K.t4 p4
  have ht:=K.t3 (.inr p4)
  have eB:d.B-1#64=BitVec.ofNat 64 (t+l.length-1):=by rw [hB,one,zgX (by omega) (by omega)]
  have eT:d.T.toNat=t+l.length-1:=by rw [e3,eB,ZA (by omega)]
  rw [vz (d:=d) (.inl (by omega)) (by omega),zGO]
  by_cases hs:ld m d.Base=d.T
  ·have hsw:sw m d.Base d.T (d.T+1#64)=(st m d.Base (d.T+1#64),true):=by unfold sw;rw [if_pos ⟨by rw [K.base];omega,by rw [K.base];omega,hs⟩]
   have et:d.T.toNat=t:=by rw [<-hs,K.base,D.top,ZA (by omega)]
   have el:=K.x4 p4 et
   rw [hsw]
   have eT':d.T=BitVec.ofNat 64 t:=by rw [<-hs,K.base,D.top]
   have hl1:l.length=1:=by rw [el];rfl
   refine ⟨t+1,[],1,⟨?_,?_,by omega,by omega,by simp,by simp;omega,fun i hi=>by simp at hi⟩,fun a h1 _=>?_,⟨by omega,fun e=>by omega⟩,by simp;omega,.inl ⟨K.out,⟨k,K.base,K.size,K.out,⟨by dsimp only;simp,by dsimp only;simp⟩,fun e=>by simp at e,fun _=>rfl,fun _=>?_,fun e=>by simp at e,fun e=>by simp at e,fun e=>by simp at e,fun e=>by simp at e,fun e=>by simp at e,fun _=>rfl⟩,?_⟩⟩
   ·dsimp only
    rw [K.base,Wl,if_pos ⟨rfl,by omega,by omega⟩,eT']
    exact zc3 (by omega)
   ·dsimp only
    rw [K.base,yp (by omega),D.bot,hc',hl1];rfl
   ·dsimp only
    rw [K.base,yp (fun e=>h1 e.symm)]
   ·dsimp only;rw [hB,hl1];rfl
   ·unfold ZN
    rw [if_neg (fun e=>by simp at e),if_pos (by simp)]
    rw [el];exact zHb _
  ·have hsw:sw m d.Base d.T (d.T+1#64)=(m,false):=by unfold sw;rw [if_neg (fun e=>hs e.2.2)]
   rw [hsw]
   have hne:d.T.toNat≠t:=fun e=>hs (by rw [K.base,D.top];apply zH2;rw [ZA (by omega)];exact e.symm)
   have el:l=[]:=by cases l with | nil=>rfl | cons a l=>rw [zG6] at eT;omega
   refine ⟨t,l,c,D,fun _ _ _=>rfl,Dv.refl _ _,zGQ _,.inl ⟨K.out,⟨k,K.base,K.size,K.out,⟨by dsimp only;simp,by dsimp only;simp⟩,fun e=>by simp at e,fun _=>hc',fun _=>hB,fun e=>by simp at e,fun e=>by simp at e,fun e=>by simp at e,fun e=>by simp at e,fun e=>by simp at e,fun _=>el⟩,?_⟩⟩
   rw [vz (.inl (by simp)) (by simp),zGO]
 rw [if_neg p4]
 have hB:=K.b (.inr (.inr (.inl (by omega))))
 have el:=K.e5 (by omega)
 obtain ⟨D',hm⟩:=stb 0 d.B (by omega) (by rw [hB];rfl)
 by_cases p5:d.PC=5
 ·rw [if_pos p5]
  exact ⟨t,l,0,D',hm,Dv.refl _ _,zGQ _,.inr (.inr ⟨rfl,rfl,el,el,vz (.inl (by omega)) (by omega)⟩)⟩
 ·rw [if_neg p5]
  refine ⟨t,l,0,D',hm,Dv.refl _ _,zGQ _,.inr (.inl ⟨rfl,rfl,?_⟩)⟩
  unfold ZN
  rw [if_neg (fun e=>p3 e.1),if_pos (show d.PC=6 by omega)]
theorem PK.stolen {p:zb}{m m':List (BitVec 64)}(h:zB p) {w:Int}(hw:1<=w/\w<=p.Workers) {t c:Nat}{x:Int}{l:List Int}{d:zd}(K:PK p m w t (x::l) c d):PK p m' w (t+1) l c d:=by
 have e:t+(x::l).length=t+1+l.length:=by rw [zG6];omega
 refine ⟨K.kind,K.base,K.size,K.out,K.pc,K.c0,K.c1,fun q=>by rw [<-e];exact K.b q,K.c3,fun a b=>?_,fun a=>Nat.le_succ_of_le (K.t3 a),K.t4,fun a b=>?_,fun a=>?_⟩
 ·have:=K.n3 a b
  rw [e] at this
  rw [zG6] at this
  exact ⟨this.1,this.2.1,this.2.2.1,by omega⟩
 ·have:=K.t3 (.inr a);omega
 ·have:=K.e5 a;cases this
theorem DK.stolen {p:zb}{m m':List (BitVec 64)}{w:Int}{t c:Nat}{x:Int}{l:List Int}{d:zd}(K:DK p m w t (x::l) c d) (hm:∀a,a≠zI p w->ld m' a=ld m a) (h:zB p):DK p m' w (t+1) l c d:=by
 have e:t+(x::l).length=t+1+l.length:=by rw [zG6];omega
 refine ⟨K.kind,K.base,K.size,K.out,K.c0,K.pc,fun q=>by rw [<-e];exact K.b q,fun q=>by have:=K.r q;rw [zG6] at this;omega,fun q=>?_⟩
 rw [<-e,hm _ (by unfold ZJ;omega)]
 exact K.x q
theorem PK.keep {p:zb}{m m':List (BitVec 64)}{w:Int}{t c:Nat}{l:List Int}{d:zd}(K:PK p m w t l c d):PK p m' w t l c d :=
 ⟨K.kind,K.base,K.size,K.out,K.pc,K.c0,K.c1,K.b,K.c3,K.n3,K.t3,K.t4,K.x4,K.e5⟩
theorem DK.keep {p:zb}(h:zB p) {m m':List (BitVec 64)}{w:Int}{t c:Nat}{l:List Int}{d:zd}(K:DK p m w t l c d) (hm:∀a,zI p w+1<a->a<zI p w+p.Cap+2->ld m' a=ld m a):DK p m' w t l c d:=by
 have hc:=h.cap
 have:=Nat.mod_lt (t+l.length) (show 0<p.Cap.toNat by omega)
 exact ⟨K.kind,K.base,K.size,K.out,K.c0,K.pc,K.b,K.r,fun q=>by rw [hm _ (by unfold ZJ;omega) (by unfold ZJ;omega)];exact K.x q⟩
theorem zwY {p:zb}(h:zB p) {m:List (BitVec 64)}{w:Int}{t c:Nat}{l:List Int}{d:zd}(hw:1<=w/\w<=p.Workers) (hlen:zZ p<=m.length) (D:DQ p m w t l c) (K:DK p m w t l c d) (hs:t+l.length+1<4294967296) (hX: -9223372036854775808<=d.X/\d.X<9223372036854775808) :
  (∀a,(a<zI p w\/zI p w+p.Cap+2<=a)->ld (yE m d).1 a=ld m a)/\(yE m d).2.X=d.X /\
  (((yE m d).2.Out=0/\DQ p (yE m d).1 w t l 0/\DK p (yE m d).1 w t l 0 (yE m d).2) \/
   ((yE m d).2.Out=3/\DQ p (yE m d).1 w t l 0) \/
   ((yE m d).2.Out=1/\DQ p (yE m d).1 w t (l++[d.X]) 0)):=by
 have hc:=h.cap
 have hd:=Yl h hw.1 hw.2
 have hf:=Zx h
 have hmod:∀i,zI p w+2<=ZJ p w i/\ZJ p w i<zI p w+p.Cap+2:=fun i=>by
  have:=Nat.mod_lt i (show 0<p.Cap.toNat by omega)
  unfold ZJ;omega
 have hpc:=K.pc
 have c00:=K.c0
 subst c00
 have ht1:=D.t1
 have hsm:=D.small
 have eb:wc (d.Base+1)=zI p w+1:=by rw [K.base,xr (by omega) (by omega)]
 unfold yE
 rw [if_neg (by have:=K.out;omega),eb]
 by_cases c0:d.PC=0
 ·rw [if_pos c0]
  exact ⟨fun _ _=>rfl,rfl,.inl ⟨K.out,D,⟨K.kind,K.base,K.size,K.out,rfl,⟨by dsimp only;omega,by dsimp only;omega⟩,fun _=>D.bot,fun e=>by dsimp only at e;omega,fun e=>by dsimp only at e;omega⟩⟩⟩
 rw [if_neg c0]
 by_cases c1:d.PC=1
 ·rw [if_pos c1]
  refine ⟨fun _ _=>rfl,by dsimp only;split<;>rfl,?_⟩
  have hB:=K.b (by omega)
  have es:(uc d).toNat=p.Cap.toNat:=by
   unfold uc
   rw [K.size,if_neg (by omega),zHE]
   omega
  have ed:(d.B-ld m d.Base).toNat=l.length:=by
   rw [hB,K.base,D.top,BitVec.toNat_sub,ZA (by omega),ZA (by omega)]
   omega
  split
  ·right;left
   exact ⟨rfl,D⟩
  ·rename_i hlt
   left
   have hr:l.length<p.Cap.toNat:=by
    have: ¬(uc d).toNat<=(d.B-ld m d.Base).toNat:=fun e=>hlt (BitVec.le_def.2 e)
    omega
   exact ⟨K.out,D,⟨K.kind,K.base,K.size,K.out,rfl,⟨by dsimp only;omega,by dsimp only;omega⟩,fun _=>hB,fun _=>hr,fun e=>by dsimp only at e;omega⟩⟩
 rw [if_neg c1]
 have hB:=K.b (by omega)
 have hr:=K.r (by omega)
 by_cases c2:d.PC=2
 ·rw [if_pos c2]
  have ep:YN d d.B=ZJ p w (t+l.length):=by rw [hB];exact zgs h hw K.base K.size (by omega)
  rw [ep]
  have hm:=hmod (t+l.length)
  refine ⟨fun a ha=>yp (by omega),rfl,.inl ⟨K.out,⟨?_,?_,D.c1,ht1,D.cap,D.small,fun i hi=>?_⟩,⟨K.kind,K.base,K.size,K.out,rfl,⟨by dsimp only;omega,by dsimp only;omega⟩,fun _=>hB,fun _=>hr,fun _=>?_⟩⟩⟩
  ·dsimp only;rw [yp (by omega)];exact D.top
  ·dsimp only;rw [yp (by omega)];exact D.bot
  ·dsimp only
   rw [yp (fun e=>zEg (t:=t) (i:=t+i) (n:=t+l.length) (c:=p.Cap.toNat) (by omega) (by omega) (by omega) (by unfold ZJ at e;omega))]
   exact D.cell i hi
  ·dsimp only
   rw [Wl,if_pos ⟨rfl,by omega,by omega⟩,BitVec.toInt_ofInt,Int.bmod_def]
   omega
 ·rw [if_neg c2]
  have hx:=K.x (by omega)
  refine ⟨fun a ha=>yp (by omega),rfl,.inr (.inr ⟨rfl,⟨?_,?_,by omega,ht1,?_,?_,fun i hi=>?_⟩⟩)⟩
  ·dsimp only;rw [yp (by omega)];exact D.top
  ·dsimp only
   rw [Wl,if_pos ⟨rfl,by omega,by omega⟩,hB,zGZ]
   exact zc3 (by omega)
  ·rw [zGZ];show l.length+1<=_;omega
  ·rw [zGZ];show t+(l.length+1)<_;omega
  ·dsimp only
   have hi':i<l.length+1:=by rw [zGZ] at hi;exact hi
   have hm:=hmod (t+i)
   rw [yp (by omega)]
   rcases zHk i l.length with g | g
   ·rw [zIy g];exact D.cell i g
   ·have:i=l.length:=by omega
    subst this
    rw [List.getElem_append_right (by omega)]
    simp only [Nat.sub_self,List.getElem_cons_zero]
    exact hx
end
end Go.Pe.G
namespace Go.Pe.G
open Go.Pe
noncomputable section
def xg (h:BitVec 64):Nat:=h.toNat/4294967296
theorem zsS (v:BitVec 64) {n:Int}(h:0<=n) (h2:n<4294967296):(xd v n).toNat=(v.toNat%4294967296)*4294967296+n.toNat:=by
 unfold xd
 have e3:(BitVec.ofInt 64 n).toNat&&&(4294967295#64).toNat=n.toNat:=by
  have:(BitVec.ofInt 64 n).toNat=n.toNat:=by rw [zHE];omega
  rw [this]
  exact (zIA n.toNat 32).trans (Nat.mod_eq_of_lt (by omega))
 rw [BitVec.toNat_or,zHW,e3,BitVec.toNat_shiftLeft]
 have h2':v.toNat <<< 32%2 ^ 64=(v.toNat%4294967296) <<< 32:=by rw [Nat.shiftLeft_eq,Nat.shiftLeft_eq];omega
 rw [h2',<-Nat.shiftLeft_add_eq_or_of_lt (show n.toNat<2 ^ 32 by omega),Nat.shiftLeft_eq]
theorem zxq (h:BitVec 64) {n:Int}(h1:0<=n) (h2:n<4294967296) (hv:xg h+1<4294967296):xg (xd ((h >>> 32)+1#64) n)=xg h+1:=by
 have e:((h >>> 32)+1#64).toNat=xg h+1:=by
  rw [BitVec.toNat_add,BitVec.toNat_ushiftRight,Nat.shiftRight_eq_div_pow]
  show (h.toNat/4294967296+1)%2 ^ 64=_
  unfold xg at hv ⊢
  omega
 unfold xg
 rw [zsS _ h1 h2,e]
 unfold xg at hv ⊢
 omega
def Chn (m:List (BitVec 64)) (N:Int) (nb:Nat):Int->List Int->Prop
 | h,[]=>h=0
 | h,x::l=>h=x/\1<=x/\x<nb/\Chn m N nb (ld m (N+x)).toInt l
theorem Chn.mem {m:List (BitVec 64)}{N:Int}{nb:Nat}:∀ {l:List Int}{h:Int},Chn m N nb h l->∀x∈l,1<=x/\x<nb
 | y::l,h,c,x,hx=>by
  rcases zG7.1 hx with rfl | hx
  ·exact ⟨c.2.1,c.2.2.1⟩
  ·exact Chn.mem c.2.2.2 x hx
theorem Chn.st {m:List (BitVec 64)}{N:Int}{nb:Nat}{a:Int}{v:BitVec 64}:∀ {l:List Int}{h:Int},Chn m N nb h l->(∀x∈l,a≠N+x)->Chn (st m a v) N nb h l
 | [],h,c,_=>c
 | y::l,h,c,hn=>⟨c.1,c.2.1,c.2.2.1,by
  rw [yp (hn y (by simp))]
  exact Chn.st c.2.2.2 (fun x hx=>hn x (zGU _ hx))⟩
theorem Chn.head {m:List (BitVec 64)}{N:Int}{nb:Nat}{l:List Int}{h:Int}(c:Chn m N nb h l) (hh:h≠0):∃t,l=h::t/\1<=h/\h<nb/\Chn m N nb (ld m (N+h)).toInt t:=by
 cases l with
 | nil=>exact absurd c hh
 | cons x t =>
  obtain ⟨rfl,h1,h2,h3⟩:=c
  exact ⟨t,rfl,h1,h2,h3⟩
theorem Chn.empty {m:List (BitVec 64)}{N:Int}{nb:Nat}{l:List Int}(c:Chn m N nb 0 l):l=[]:=by
 cases l with
 | nil=>rfl
 | cons x t=>have:=c.1;have:=c.2.1;omega
def znS (nb:Nat):List Int:=(List.range (nb-1)).map (fun (i:Nat)=>(i:Int)+1)
theorem zru (nb:Nat):(znS nb).Nodup:=by
 unfold znS
 rw [List.Nodup,List.pairwise_map]
 exact List.nodup_range.imp (fun h e=>h (by omega))
theorem zpQ {nb:Nat}{x:Int}:x∈znS nb↔1<=x/\x<nb:=by
 unfold znS
 rw [zG2]
 constructor
 ·rintro ⟨i,hi,rfl⟩
  have:=zHj.1 hi
  omega
 ·rintro ⟨h1,h2⟩
  exact ⟨(x-1).toNat,zHj.2 (by omega),by omega⟩
structure LI (p:zb) (nb:Nat) (m:List (BitVec 64)) (h1 h2:Int) (F E own:List Int):Prop where
 hs:(h1=zZ p/\h2=zD p)\/(h1=zD p/\h2=zZ p)
 cF:Chn m (zD p) nb (yg (ld m h1)) F
 cE:Chn m (zD p) nb (yg (ld m h2)) E
 all:List.Perm (F++E++own) (znS nb)
 len:zD p+nb<=m.length
theorem LI.nodup {p:zb}{nb:Nat}{m:List (BitVec 64)}{h1 h2:Int}{F E own:List Int}(h:LI p nb m h1 h2 F E own):(F++E++own).Nodup:=h.all.nodup_iff.2 (zru nb)
theorem LI.notF {p:zb}{nb:Nat}{m:List (BitVec 64)}{h1 h2:Int}{F E own:List Int}(h:LI p nb m h1 h2 F E own) {x:Int}(hx:x∈own):x∉F/\x∉E:=by
 have:=zHX.1 h.nodup
 exact ⟨fun e=>this.2.2 x (zG9 _ e) x hx rfl,fun e=>this.2.2 x (zHp _ e) x hx rfl⟩
theorem LI.own_in {p:zb}{nb:Nat}{m:List (BitVec 64)}{h1 h2:Int}{F E own:List Int}(h:LI p nb m h1 h2 F E own) {x:Int}(hx:x∈own):1<=x/\x<nb:=zpQ.1 (h.all.subset (zHp _ hx))
structure CK (p:zb) (m:List (BitVec 64)) (c:zE):Prop where
 v:1<=c.PC->xg c.H<=xg (ld m c.Head)
 y:c.PC=2->c.Kind=2->ld m c.Head=c.H->c.Y=(ld m (zD p+yg c.H)).toInt
 l:c.PC=2->c.Kind=1->ld m (zD p+c.X)=BitVec.ofInt 64 (yg c.H)
structure Mv (p:zb) (nb:Nat) (X:List Int) (m m':List (BitVec 64)):Prop where
 hd:∀h,h=zZ p\/h=zD p->xg (ld m h)<=xg (ld m' h)/\(ld m' h=ld m h\/xg (ld m h)<xg (ld m' h))
 nx:∀x:Int,1<=x->x<nb->x∉X->ld m' (zD p+x)=ld m (zD p+x)
theorem Mv.refl (p:zb) (nb:Nat) (X:List Int) (m:List (BitVec 64)):Mv p nb X m m:=⟨fun h _=>⟨zGQ _,.inl rfl⟩,fun _ _ _ _=>rfl⟩
theorem CK.mv {p:zb}{nb:Nat}{m m':List (BitVec 64)}{h1 h2:Int}{F E own X:List Int}{c:zE}(k:CK p m c) (L:LI p nb m h1 h2 F E own) (M:Mv p nb X m m') (hX:∀x∈X,x∈own)
  (hh:c.Head=h1\/c.Head=h2) (hn:1<=c.PC->c.Kind=2->1<=yg c.H/\yg c.H<nb) (hx:c.Kind=1->1<=c.X/\c.X<nb/\c.X∉X):CK p m' c:=by
 obtain ⟨m1,m2⟩:=M.hd c.Head (by rcases L.hs with g | g<;>rcases hh with hh | hh<;>rw [hh]<;>simp [g])
 refine ⟨fun h=>zHP (k.v h) m1,fun h2 hk e=>?_,fun h2 hk=>?_⟩
 ·have hv:=k.v (by omega)
  have e':ld m c.Head=c.H:=by
   rcases m2 with m2 | m2
   ·rw [<-m2];exact e
   ·rw [e] at m2;omega
  obtain ⟨n1,n2⟩:=hn (by omega) hk
  rw [M.nx _ n1 n2 (fun hmem=>?_)]
  ·exact k.y h2 hk e'
  ·obtain ⟨f1,f2⟩:=L.notF (hX _ hmem)
   rcases hh with hh | hh
   ·obtain ⟨t,ht,_⟩:=L.cF.head (by rw [<-hh,e'];omega)
    rw [<-hh,e'] at ht
    exact f1 (by rw [ht];simp)
   ·obtain ⟨t,ht,_⟩:=L.cE.head (by rw [<-hh,e'];omega)
    rw [<-hh,e'] at ht
    exact f2 (by rw [ht];simp)
 ·obtain ⟨x1,x2,x3⟩:=hx hk
  rw [M.nx _ x1 x2 x3]
  exact k.l h2 hk
theorem LI.swap {p:zb}{nb:Nat}{m:List (BitVec 64)}{h1 h2:Int}{F E own:List Int}(h:LI p nb m h1 h2 F E own):LI p nb m h2 h1 E F own :=
 ⟨h.hs.elim (fun g=>.inr ⟨g.2,g.1⟩) (fun g=>.inl ⟨g.2,g.1⟩),h.cE,h.cF,(zHw.append_right own).trans h.all,h.len⟩
theorem zqd {p:zb}(hp:zB p) {m:List (BitVec 64)}{a x:Int}{v:BitVec 64}(ha:a=zZ p\/a=zD p) (hx:1<=x):ld (st m a v) (zD p+x)=ld m (zD p+x):=by
 have:=wo hp
 exact yp (by omega)
theorem Chn.st_head {p:zb}(hp:zB p) {m:List (BitVec 64)}{nb:Nat}{a h:Int}{l:List Int}{v:BitVec 64}(ha:a=zZ p\/a=zD p) (c:Chn m (zD p) nb h l):Chn (Go.Pe.G.st m a v) (zD p) nb h l:=by
 have:=wo hp
 exact c.st (fun x hx=>by have:=(c.mem x hx).1;omega)
theorem Mv.head {p:zb}(hp:zB p) {nb:Nat}{X:List Int}{m:List (BitVec 64)}{a:Int}{v:BitVec 64}(ha:a=zZ p\/a=zD p) (hv:xg (ld m a)<xg v):Mv p nb X m (st m a v):=by
 refine ⟨fun h hh=>?_,fun x hx _ _=>zqd hp ha hx⟩
 by_cases e:a=h
 ·subst e
  rw [Wl]
  split
  ·exact ⟨by omega,.inr hv⟩
  ·exact ⟨zGQ _,.inl rfl⟩
 ·rw [yp e];exact ⟨zGQ _,.inl rfl⟩
theorem zx6 {p:zb}(hp:zB p) {nb:Nat}(hnb:nb<1000) {m:List (BitVec 64)}{h1 h2:Int}{F E own:List Int}(L:LI p nb m h1 h2 F E own) {c:zE}
  (hk:c.Kind=2) (hh:c.Head=h1) (hN:c.Next=zD p) (ho:c.Out=0) (hpc:0<=c.PC/\c.PC<=2) (K:CK p m c) (hn:1<=c.PC->1<=yg c.H/\yg c.H<nb) (hv:xg (ld m h1)+1<4294967296) :
  ((zn m c).1=m/\(zn m c).2.Out≠1/\((zn m c).2.Out=2->F=[])/\CK p m (zn m c).2) \/
  (∃x F',F=x::F'/\(zn m c).2.Out=1/\(zn m c).2.X=x/\LI p nb (zn m c).1 h1 h2 F' E (x::own)/\Mv p nb [] m (zn m c).1/\xg (ld (zn m c).1 h1)=xg (ld m h1)+1/\ld (zn m c).1 h2=ld m h2):=by
 have hE:=wo hp
 have hF:=Zx hp
 have hd:h1=zZ p\/h1=zD p:=by rcases L.hs with g | g<;>simp [g]
 unfold zn
 rw [if_neg (by omega)]
 by_cases c0:c.PC=0
 ·rw [if_pos c0]
  left
  split
  ·rename_i e
   refine ⟨rfl,(by show (2:Int)≠1;decide),fun _=>?_,⟨fun _=>by rw [hh];exact zGQ _,fun e2=>(by cases e2),fun e2=>(by cases e2)⟩⟩
   have:=L.cF
   rw [hh] at e
   rw [e.2] at this
   exact this.empty
  ·refine ⟨rfl,by dsimp only;omega,fun e=>by dsimp only at e;omega,⟨fun _=>by rw [hh];exact zGQ _,fun e2=>(by cases e2),fun e2=>(by cases e2)⟩⟩
 ·rw [if_neg c0]
  by_cases c1:c.PC=1
  ·rw [if_pos c1,if_pos hk]
   left
   refine ⟨rfl,by dsimp only;omega,fun e=>by dsimp only at e;omega,⟨fun _=>K.v (by omega),fun _ _ _=>?_,fun _ e=>by dsimp only at e;omega⟩⟩
   have:=hn (by omega)
   dsimp only
   rw [hN,xr (by omega) (by omega)]
  ·rw [if_neg c1]
   have c2:c.PC=2:=by omega
   simp only [if_pos hk]
   by_cases hs:0<=c.Head/\c.Head<m.length/\ld m c.Head=c.H
   ·right
    have n:=hn (by omega)
    have hsw:sw m c.Head c.H (xd (c.H >>> 32+1#64) c.Y)=(st m c.Head (xd (c.H >>> 32+1#64) c.Y),true):=by unfold sw;rw [if_pos hs]
    rw [hsw]
    have hc:=L.cF
    rw [<-hh,hs.2.2] at hc
    obtain ⟨t,ht,_,_,hct⟩:=hc.head (by omega)
    have hy:=K.y c2 hk hs.2.2
    have hct':=hct
    rw [<-hy] at hct'
    have y0:0<=c.Y/\c.Y<nb:=by
     cases t with
     | nil=>have e:c.Y=0:=hct';omega
     | cons z t=>have:=hct'.1;have:=hct'.2.1;have:=hct'.2.2.1;omega
    have vp:xg (xd (c.H >>> 32+1#64) c.Y)=xg c.H+1:=zxq c.H y0.1 (by omega) (by rw [<-hs.2.2,hh];exact hv)
    have hcH:xg c.H=xg (ld m h1):=by rw [<-hs.2.2,hh]
    have ld1:ld (st m h1 (xd (c.H >>> 32+1#64) c.Y)) h1=xd (c.H >>> 32+1#64) c.Y:=by rw [Wl,if_pos ⟨rfl,by rw [<-hh];exact hs.1,by rw [<-hh];exact hs.2.1⟩]
    have h12:h1≠h2:=by rcases L.hs with g | g<;>omega
    refine ⟨yg c.H,t,ht,rfl,rfl,?_,?_,?_,?_⟩
    ·rw [hh]
     refine ⟨L.hs,?_,?_,?_,by rw [ZS];exact L.len⟩
     ·rw [ld1,zc9 _ y0.1 (by omega)]
      exact hct'.st_head hp hd
     ·rw [yp h12]
      exact L.cE.st_head hp hd
     ·refine List.Perm.trans ?_ L.all
      rw [ht]
      show List.Perm (t++E++yg c.H::own) (yg c.H::(t++E++own))
      exact List.perm_middle
    ·rw [hh]
     exact Mv.head hp hd (by rw [vp,hcH];omega)
    ·rw [hh,ld1,vp,hcH]
    ·rw [hh,yp h12]
   ·left
    have hsw:sw m c.Head c.H (xd (c.H >>> 32+1#64) c.Y)=(m,false):=by unfold sw;rw [if_neg hs]
    rw [hsw]
    refine ⟨rfl,by dsimp only;simp;omega,fun e=>by simp at e;omega,⟨fun e=>by simp at e,fun e=>by simp at e,fun e=>by simp at e⟩⟩
theorem zzK {n:Int}(h:0<=n) (h2:n<4294967296):(BitVec.ofInt 64 n).toInt=n:=toInt_ofInt h h2
theorem znu {N a b:Int}(h:N+a=N+b):b=a:=by omega
theorem zwt {p:zb}(hp:zB p) {nb:Nat}(hnb:nb<1000) {m:List (BitVec 64)}{h1 h2 b:Int}{F E o1 o2:List Int}(L:LI p nb m h1 h2 F E (o1++b::o2)) {c:zE}
  (hk:c.Kind=1) (hh:c.Head=h1) (hN:c.Next=zD p) (hX:c.X=b) (ho:c.Out=0) (hpc:0<=c.PC/\c.PC<=2) (K:CK p m c) (hn:1<=c.PC->yg c.H<nb) (hv:xg (ld m h1)+1<4294967296) :
  ((zn m c).2.Out=0/\LI p nb (zn m c).1 h1 h2 F E (o1++b::o2)/\Mv p nb [b] m (zn m c).1/\CK p (zn m c).1 (zn m c).2/\(∀a,a<=zD p->ld (zn m c).1 a=ld m a)) \/
  ((zn m c).2.Out=1/\LI p nb (zn m c).1 h1 h2 (b::F) E (o1++o2)/\Mv p nb [] m (zn m c).1/\xg (ld (zn m c).1 h1)=xg (ld m h1)+1/\(∀a,a<=zD p->a≠h1->ld (zn m c).1 a=ld m a)):=by
 have hE:=wo hp
 have hF:=Zx hp
 have hd:h1=zZ p\/h1=zD p:=by rcases L.hs with g | g<;>simp [g]
 have hd2:h2=zZ p\/h2=zD p:=by rcases L.hs with g | g<;>simp [g]
 have hb:1<=b/\b<nb:=L.own_in (zHp _ (by simp))
 have hbn:=L.notF (x:=b) (zHp _ (by simp))
 have hlen:=L.len
 have hk2: ¬c.Kind=2:=by omega
 unfold zn
 rw [if_neg (by omega)]
 by_cases c0:c.PC=0
 ·rw [if_pos c0,if_neg (fun e=>hk2 e.1)]
  left
  exact ⟨ho,L,Mv.refl _ _ _ _,⟨fun _=>by rw [hh];exact zGQ _,fun e2=>(by cases e2),fun e2=>(by cases e2)⟩,fun _ _=>rfl⟩
 ·rw [if_neg c0]
  by_cases c1:c.PC=1
  ·rw [if_pos c1,if_neg hk2]
   left
   have nn:=zlf c.H
   have ea:wc (c.Next+c.X)=zD p+b:=by rw [hN,hX,xr (by omega) (by omega)]
   rw [ea]
   have hne:∀h,h=zZ p\/h=zD p->ld (st m (zD p+b) (BitVec.ofInt 64 (yg c.H))) h=ld m h:=fun h hh=>yp (by omega)
   refine ⟨ho,⟨L.hs,?_,?_,L.all,by dsimp only;rw [ZS];exact hlen⟩,⟨fun h hh=>?_,fun x x1 x2 x3=>?_⟩,⟨fun _=>?_,fun _ e=>absurd e hk2,fun _ _=>?_⟩,fun a ha=>?_⟩
   ·dsimp only
    rw [hne _ hd]
    exact L.cF.st (fun x hx e=>hbn.1 (znu e▸hx))
   ·dsimp only
    rw [hne _ hd2]
    exact L.cE.st (fun x hx e=>hbn.2 (znu e▸hx))
   ·dsimp only
    rw [hne _ hh];exact ⟨zGQ _,.inl rfl⟩
   ·dsimp only
    exact yp (fun e=>x3 (zHo.2 (znu e)))
   ·dsimp only
    rw [hh,hne _ hd,<-hh];exact K.v (by omega)
   ·dsimp only
    rw [hX,Wl,if_pos ⟨rfl,by omega,by omega⟩]
   ·dsimp only
    exact yp (by omega)
  ·rw [if_neg c1]
   have c2:c.PC=2:=by omega
   simp only [if_neg hk2]
   by_cases hs:0<=c.Head/\c.Head<m.length/\ld m c.Head=c.H
   ·right
    have n:=hn (by omega)
    have nn:=zlf c.H
    have hsw:sw m c.Head c.H (xd (c.H >>> 32+1#64) c.X)=(st m c.Head (xd (c.H >>> 32+1#64) c.X),true):=by unfold sw;rw [if_pos hs]
    rw [hsw]
    have hl:=K.l c2 hk
    rw [hX] at hl
    have vp:xg (xd (c.H >>> 32+1#64) c.X)=xg c.H+1:=zxq c.H (by omega) (by omega) (by rw [<-hs.2.2,hh];exact hv)
    have hcH:xg c.H=xg (ld m h1):=by rw [<-hs.2.2,hh]
    have ld1:ld (st m h1 (xd (c.H >>> 32+1#64) c.X)) h1=xd (c.H >>> 32+1#64) c.X:=by rw [Wl,if_pos ⟨rfl,by rw [<-hh];exact hs.1,by rw [<-hh];exact hs.2.1⟩]
    have h12:h1≠h2:=by rcases L.hs with g | g<;>omega
    refine ⟨rfl,?_,?_,?_,fun a ha hne=>?_⟩
    ·rw [hh]
     refine ⟨L.hs,?_,?_,?_,by dsimp only;rw [ZS];exact hlen⟩
     ·dsimp only
      rw [ld1,zc9 _ (by omega) (by omega),hX]
      refine ⟨rfl,hb.1,hb.2,?_⟩
      rw [zqd hp hd hb.1,hl,zzK nn.1 nn.2]
      have:=L.cF
      rw [<-hh,hs.2.2] at this
      rw [<-hX,<-hh] at *
      exact this.st_head hp hd
     ·dsimp only
      rw [yp h12]
      exact L.cE.st_head hp hd
     ·refine List.Perm.trans ?_ L.all
      show List.Perm (b::(F++E++(o1++o2))) (F++E++(o1++b::o2))
      rw [<-zGR (F++E) o1 o2,<-zGR (F++E) o1 (b::o2)]
      exact List.perm_middle.symm
    ·rw [hh]
     exact Mv.head hp hd (by rw [vp,hcH];omega)
    ·rw [hh]
     dsimp only
     rw [ld1,vp,hcH]
    ·rw [hh]
     exact yp (fun e=>hne e.symm)
   ·left
    have hsw:sw m c.Head c.H (xd (c.H >>> 32+1#64) c.X)=(m,false):=by unfold sw;rw [if_neg hs]
    rw [hsw]
    exact ⟨ho,L,Mv.refl _ _ _ _,⟨fun e=>(by simp at e),fun e=>(by simp at e),fun e=>(by simp at e)⟩,fun _ _=>rfl⟩
end
end Go.Pe.G
namespace Go.Pe.G
open Go.Pe
noncomputable section
structure Gh where
 F:List Int
 E:List Int
 D:Int->List Int
 t:Int->Nat
 c:Int->Nat
def yw (s:za) (b:Int):List Int:=(s.Bins[b.toNat]?).getD []
def yo (p:zb) (s:za) (g:Gh):List Int:=g.F.flatMap (yw s)++(List.range p.Workers.toNat).flatMap (fun i:Nat=>g.D ((i:Int)+1))
structure SX (p:zb) (nb:Nat) (s:za) (g:Gh) (own:List Int) (k:Nat):Prop where
 S:SOk p nb s
 L:LI p nb s.M (zZ p) (zD p) g.F g.E own
 D:∀w,1<=w->w<=p.Workers->DQ p s.M w (g.t w) (g.D w) (g.c w)
 v:xg (ld s.M (zZ p))<=k/\xg (ld s.M (zD p))<=k
 dk:∀w,1<=w->w<=p.Workers->g.t w+(g.D w).length<=k+1000
inductive DFr (p:zb) (m m':List (BitVec 64)) (g g':Gh) (w:Int):Prop
 | same (e1:g'.t w=g.t w) (e2:g'.D w=g.D w) (e3:g'.c w=g.c w) (e4:∀a,zI p w<=a->a<zI p w+p.Cap+2->ld m' a=ld m a):DFr p m m' g g' w
 | stolen (x:Int) (e1:g'.t w=g.t w+1) (e2:g.D w=x::g'.D w) (e3:g'.c w=g.c w) (e4:∀a,zI p w<a->a<zI p w+p.Cap+2->ld m' a=ld m a):DFr p m m' g g' w
structure FX (p:zb) (nb:Nat) (X:List Int) (O:Int->Prop) (s s':za) (g g':Gh):Prop where
 mv:Mv p nb X s.M s'.M
 bn:∀b,1<=b->b∉X->s'.Bins[b.toNat]? =s.Bins[b.toNat]?
 dq:∀w,1<=w->w<=p.Workers->DFr p s.M s'.M g g' w\/(O w/\Dv (g.t w) (g.D w) (g'.t w) (g'.D w))
 fb:∀y∈g'.F,y∈g.F\/yw s' y≠[]
theorem DFr.dv {p:zb}{m m':List (BitVec 64)}{g g':Gh}{w:Int}(h:DFr p m m' g g' w):Dv (g.t w) (g.D w) (g'.t w) (g'.D w):=by
 cases h with
 | same t l c m=>rw [t,l];exact Dv.refl _ _
 | stolen x t l c m=>exact ⟨by omega,fun e=>by omega⟩
theorem FX.dv {p:zb}{nb:Nat}{X:List Int}{O:Int->Prop}{s s':za}{g g':Gh}(h:FX p nb X O s s' g g') {w:Int}(h1:1<=w) (h2:w<=p.Workers):Dv (g.t w) (g.D w) (g'.t w) (g'.D w):=by
 rcases h.dq w h1 h2 with h | h
 ·exact h.dv
 ·exact h.2
theorem FX.tk {p:zb}{nb:Nat}{X:List Int}{O:Int->Prop}{s s':za}{g g':Gh}(h:FX p nb X O s s' g g') {w:Int}(h1:1<=w) (h2:w<=p.Workers) {d:zd}(K:TK p s.M w (g.t w) (g.D w) d):TK p s'.M w (g'.t w) (g'.D w) d:=K.dv (h.dv h1 h2)
theorem FX.pk {p:zb}(hp:zB p) {nb:Nat}{X:List Int}{O:Int->Prop}{s s':za}{g g':Gh}(h:FX p nb X O s s' g g') {w:Int}(h1:1<=w) (h2:w<=p.Workers) (ho: ¬O w) {d:zd}(K:PK p s.M w (g.t w) (g.D w) (g.c w) d):PK p s'.M w (g'.t w) (g'.D w) (g'.c w) d:=by
 rcases h.dq w h1 h2 with h | h
 ·cases h with
  | same t l c m=>rw [t,l,c];exact K.keep
  | stolen x t l c m=>rw [l] at K;rw [t,c];exact K.stolen hp ⟨h1,h2⟩
 ·exact absurd h.1 ho
theorem FX.dk {p:zb}(hp:zB p) {nb:Nat}{X:List Int}{O:Int->Prop}{s s':za}{g g':Gh}(h:FX p nb X O s s' g g') {w:Int}(h1:1<=w) (h2:w<=p.Workers) (ho: ¬O w) {d:zd}(K:DK p s.M w (g.t w) (g.D w) (g.c w) d):DK p s'.M w (g'.t w) (g'.D w) (g'.c w) d:=by
 have hc:=hp.cap
 rcases h.dq w h1 h2 with h | h
 ·cases h with
  | same t l c m=>rw [t,l,c];exact K.keep hp (fun a h1 h2=>m a (by omega) h2)
  | stolen x t l c m =>
   rw [l] at K
   have K':DK p s'.M w (g.t w) (x::g'.D w) (g.c w) d:=K.keep hp (fun a h1 h2=>m a (by omega) h2)
   rw [t,c]
   exact K'.stolen (m':=s'.M) (fun _ _=>rfl) hp
 ·exact absurd h.1 ho
def x8 (g:zu):List Int:=if g.Out=0/\(g.PC=6\/g.PC=7) then [g.Bin] else []
def ym (g:zu):List Int:=if g.Out=0/\3<=g.PC/\g.PC<=7 then [g.Obj] else []
structure GX (p:zb) (s:za) (gh:Gh) (g:zu):Prop where
 o:g.Out=0\/g.Out=1
 pc:0<=g.PC/\g.PC<=7
 md:1<=g.Mode/\g.Mode<=3
 ob:1<=g.Obj/\g.Obj<=64
 c0:g.Mode=1->g.Out=0->gh.c g.Who=0
 c5:g.PC=5->g.Out=0->g.C.Out=0/\(0<=g.C.PC/\g.C.PC<=2)/\CK p s.M g.C
 c7:g.PC=7->g.Out=0->g.C.Out=0/\(0<=g.C.PC/\g.C.PC<=2)/\g.C.X=g.Bin/\CK p s.M g.C/\s.Bins[g.Bin.toNat]? =some [g.Obj]
 d3:g.PC=3->g.Out=0->g.Mode=1/\g.D.X=g.Obj/\DK p s.M g.Who (gh.t g.Who) (gh.D g.Who) (gh.c g.Who) g.D
theorem GX.other {p:zb}(hp:zB p) {nb k:Nat}{s s':za}{gh gh':Gh}{X R:List Int}{O:Int->Prop}{o:zu}(Y:SX p nb s gh (X++R) k) (Fx:FX p nb X O s s' gh gh') (G:GX p s gh o) (M:MOk p nb o)
  (hR:∀x∈x8 o,x∈R) (apart:o.Mode=1->¬O o.Who):GX p s' gh' o:=by
 have hsub:∀x∈X,x∈X++R:=fun x hx=>zG9 _ hx
 have hnd:=(zHX.1 Y.L.nodup).2.1
 have hnot:∀x,x∈x8 o->x∉X:=fun x hx hg=>(zHX.1 hnd).2.2 x hg x (hR x hx) rfl
 refine ⟨G.o,G.pc,G.md,G.ob,fun h1 h0=>?_,fun h5 h0=>?_,fun h7 h0=>?_,fun h3 h0=>?_⟩
 ·have hw:=M.who h1
  rcases Fx.dq o.Who hw.1 hw.2 with h | h
  ·cases h with
   | same t l c m=>rw [c];exact G.c0 h1 h0
   | stolen x t l c m=>rw [c];exact G.c0 h1 h0
  ·exact absurd h.1 (apart h1)
 ·obtain ⟨a,b,c⟩:=G.c5 h5 h0
  obtain ⟨m1,m2,m3,m4,m5⟩:=M.c5 h5
  exact ⟨a,b,c.mv Y.L Fx.mv hsub (.inr m2) (fun h _=>m4 h) (fun e=>by omega)⟩
 ·obtain ⟨a,b,c,d,e⟩:=G.c7 h7 h0
  obtain ⟨m1,m2,m3,m4,m5⟩:=M.c7 h7
  have hown:o.Bin∈x8 o:=by unfold x8;rw [if_pos ⟨h0,.inr h7⟩];simp
  have hno:=hnot _ hown
  exact ⟨a,b,c,d.mv Y.L Fx.mv hsub (.inl m2) (fun _ e=>by omega) (fun _=>⟨m4.1,m4.2,by rw [c];exact hno⟩),by rw [Fx.bn o.Bin (by rw [<-c];exact m4.1) hno];exact e⟩
 ·obtain ⟨a,b,c⟩:=G.d3 h3 h0
  have hw:=M.who a
  exact ⟨a,b,Fx.dk hp hw.1 hw.2 (apart a) c⟩
theorem zbk (m:List (BitVec 64)) {c:zE}(h:c.Out=0) (hpc:0<=c.PC/\c.PC<=2) (hk:c.Kind=1\/c.Kind=2) :
  ((zn m c).2.Out=0/\0<=(zn m c).2.PC/\(zn m c).2.PC<=2)\/(zn m c).2.Out=1\/((zn m c).2.Out=2/\c.Kind=2):=by
 unfold zn
 rw [if_neg (by omega)]
 split
 ·dsimp only
  split
  ·rename_i e;exact .inr (.inr ⟨rfl,e.1⟩)
  ·exact .inl ⟨h,by show (0:Int)<=1;decide,by show (1:Int)<=2;decide⟩
 split
 ·split<;>exact .inl ⟨h,by show (0:Int)<=2;decide,by show (2:Int)<=2;decide⟩
 ·dsimp only
  generalize sw m c.Head c.H _=r
  split
  ·split<;>exact .inr (.inl rfl)
  ·exact .inl ⟨h,by show (0:Int)<=0;decide,by show (0:Int)<=2;decide⟩
theorem zmf (m:List (BitVec 64)) (c:zE):(zn m c).2.Kind=c.Kind/\(zn m c).2.Head=c.Head/\(zn m c).2.Next=c.Next/\(c.Kind=1->(zn m c).2.X=c.X):=by
 unfold zn
 split
 ·exact ⟨rfl,rfl,rfl,fun _=>rfl⟩
 split
 ·dsimp only;split<;>exact ⟨rfl,rfl,rfl,fun _=>rfl⟩
 split
 ·split<;>exact ⟨rfl,rfl,rfl,fun _=>rfl⟩
 ·dsimp only
  generalize sw m c.Head c.H _=r
  split
  ·split
   ·rename_i e;exact ⟨rfl,rfl,rfl,fun e2=>by omega⟩
   ·exact ⟨rfl,rfl,rfl,fun _=>rfl⟩
  ·exact ⟨rfl,rfl,rfl,fun _=>rfl⟩
theorem SX.quiet {p:zb}{nb k:Nat}{s s':za}{g:Gh}{own:List Int}(X:SX p nb s g own k) (S':SOk p nb s') (hm:s'.M=s.M):SX p nb s' g own (k+1) :=
 ⟨S',by rw [hm];exact X.L,by rw [hm];exact X.D,by rw [hm];exact ⟨Nat.le_succ_of_le X.v.1,Nat.le_succ_of_le X.v.2⟩,fun w h1 h2=>by have:=X.dk w h1 h2;omega⟩
theorem FX.quiet {p:zb}{nb:Nat}{X:List Int}{O:Int->Prop}{s s':za}{g:Gh}(hm:s'.M=s.M) (hb:∀b,1<=b->b∉X->s'.Bins[b.toNat]? =s.Bins[b.toNat]?):FX p nb X O s s' g g :=
 ⟨by rw [hm];exact Mv.refl _ _ _ _,hb,fun _ _ _=>.inl (.same rfl rfl rfl (fun _ _ _=>by rw [hm])),fun _ h=>.inl h⟩
theorem uL {p:zb}{s s':za}{g:Gh}(hb:s'.Bins=s.Bins):yo p s' g=yo p s g:=by
 unfold yo yw;rw [hb]
theorem vg {g:zu}(h:g.Out≠0\/(g.PC≠6/\g.PC≠7)):x8 g=[]:=by unfold x8;rw [if_neg (by omega)]
theorem zjg {g:zu}(h:g.Out=0) (h2:g.PC=6\/g.PC=7):x8 g=[g.Bin]:=by unfold x8;rw [if_pos ⟨h,h2⟩]
theorem Zt {g:zu}(h:g.Out≠0\/g.PC<3\/7<g.PC):ym g=[]:=by unfold ym;rw [if_neg (by omega)]
theorem vG {g:zu}(h:g.Out=0) (h2:3<=g.PC) (h3:g.PC<=7):ym g=[g.Obj]:=by unfold ym;rw [if_pos ⟨h,h2,h3⟩]
theorem GX.ask {p:zb}{s:za}{gh:Gh}{g:zu}(o:g.Out=0) (md:1<=g.Mode/\g.Mode<=3) (ob:1<=g.Obj/\g.Obj<=64) (c0:g.Mode=1->gh.c g.Who=0) (q:zb):GX p s gh (zhS q g) :=
 ⟨.inl o,⟨by show (0:Int)<=5;decide,by show (5:Int)<=7;decide⟩,md,ob,fun h _=>c0 h,
  fun _ _=>⟨rfl,⟨by show (0:Int)<=0;decide,by show (0:Int)<=2;decide⟩,⟨fun e=>absurd e (by show ¬(1:Int)<=0;decide),fun e=>absurd e (by show ¬(0:Int)=2;decide),fun e=>absurd e (by show ¬(0:Int)=2;decide)⟩⟩,
  fun e=>absurd e (by show ¬(5:Int)=7;decide),fun e=>absurd e (by show ¬(5:Int)=3;decide)⟩
theorem GX.plain {p:zb}{s:za}{gh:Gh}{g:zu}(o:g.Out=0\/g.Out=1) (pc:0<=g.PC/\g.PC<=7) (md:1<=g.Mode/\g.Mode<=3) (ob:1<=g.Obj/\g.Obj<=64) (c0:g.Mode=1->g.Out=0->gh.c g.Who=0) (h:g.Out≠0\/(g.PC≠3/\g.PC≠5/\g.PC≠7)):GX p s gh g :=
 ⟨o,pc,md,ob,c0,fun e e2=>by omega,fun e e2=>by omega,fun e e2=>by omega⟩
def zw3 (g:zu) (w:Int):Prop:=g.Mode=1/\w=g.Who
def zqP (p:zb) (nb k:Nat) (R:List Int) (gh:Gh) (s:za) (g:zu) (s':za) (g':zu):Prop :=
 ∃gh',SX p nb s' gh' (x8 g'++R) (k+1)/\GX p s' gh' g'/\FX p nb (x8 g) (zw3 g) s s' gh gh'/\(g.Mode=1->g.Out=0->gh'.c g.Who=0)/\(∀b∈gh'.F,b∈gh.F\/yw s' b≠[]) /\
  ∃N,List.Perm (yo p s' gh'++ym g') (N++(yo p s gh++ym g)) /\
   ((N=[]/\s'.T=s.T)\/(N=[g.Obj]/\¬(s.T.Marks|||bit g.Obj=s.T.Marks)/\s'.T={s.T with Marks:=s.T.Marks|||bit g.Obj}))
theorem zqP.quiet {p:zb}{nb k:Nat}{R:List Int}{gh:Gh}{s s':za}{g g':zu}(X:SX p nb s gh (x8 g++R) k) (S':SOk p nb s') (hm:s'.M=s.M) (hb:s'.Bins=s.Bins) (hT:s'.T=s.T)
  (ho:x8 g'=x8 g) (hh:ym g'=ym g) (c0:g.Mode=1->g.Out=0->gh.c g.Who=0) (G':GX p s' gh g'):zqP p nb k R gh s g s' g' :=
 ⟨gh,by rw [ho];exact X.quiet S' hm,G',FX.quiet hm (fun _ _ _=>by rw [hb]),c0,fun _ h=>.inl h,[],by rw [uL hb,hh];exact zHb _,.inl ⟨rfl,hT⟩⟩
theorem zpk (m:List (BitVec 64)) {c:zE}(hk:c.Kind=2) {a:Int}(ha:a≠c.Head):ld (zn m c).1 a=ld m a:=by
 unfold zn
 split
 ·rfl
 split
 ·rfl
 split
 ·rfl
 ·dsimp only
  unfold sw
  split
  ·exact yp (fun e=>ha e.symm)
  ·rfl
theorem Chn.congr {m m':List (BitVec 64)}{N:Int}{nb:Nat}(hm:∀x:Int,1<=x->ld m' (N+x)=ld m (N+x)):∀ {l:List Int}{h:Int},Chn m N nb h l->Chn m' N nb h l
 | [],h,c=>c
 | y::l,h,c=>⟨c.1,c.2.1,c.2.2.1,by rw [hm y c.2.1];exact Chn.congr hm c.2.2.2⟩
theorem LI.low {p:zb}(hp:zB p) {nb:Nat}{m m':List (BitVec 64)}{h1 h2:Int}{F E own:List Int}(L:LI p nb m h1 h2 F E own) (hl:m'.length=m.length) (hm:∀a,zZ p<=a->ld m' a=ld m a):LI p nb m' h1 h2 F E own:=by
 have hE:=wo hp
 have h:h1=zZ p\/h1=zD p:=by rcases L.hs with g | g<;>simp [g]
 have h':h2=zZ p\/h2=zD p:=by rcases L.hs with g | g<;>simp [g]
 exact ⟨L.hs,by rw [hm h1 (by omega)];exact L.cF.congr (fun x hx=>hm _ (by omega)),by rw [hm h2 (by omega)];exact L.cE.congr (fun x hx=>hm _ (by omega)),L.all,by rw [hl];exact L.len⟩
theorem Mv.low {p:zb}(hp:zB p) {nb:Nat}{X:List Int}{m m':List (BitVec 64)}(hm:∀a,zZ p<=a->ld m' a=ld m a):Mv p nb X m m':=by
 have hE:=wo hp
 exact ⟨fun h hh=>by rw [hm h (by omega)];exact ⟨zGQ _,.inl rfl⟩,fun x hx _ _=>hm _ (by omega)⟩
theorem zzr {p:zb}(hp:zB p) {v w:Int}(hv:1<=v/\v<=p.Workers) (hw:1<=w/\w<=p.Workers) (h:v≠w):zI p v+p.Cap+2<=zI p w\/zI p w+p.Cap+2<=zI p v:=by
 have hk:=hp.wk
 have hc:=hp.cap
 have h1:=(Yl hp hv.1 hv.2).1
 have h2:=(Yl hp hw.1 hw.2).1
 have hx:v=1\/v=2\/v=3:=by omega
 have hy:w=1\/w=2\/w=3:=by omega
 rw [h1,h2]
 rcases hx with rfl | rfl | rfl<;>rcases hy with rfl | rfl | rfl<;>omega
theorem zuP {p:zb}(hp:zB p) {w:Int}(hw:1<=w/\w<=p.Workers) {m m':List (BitVec 64)}(hm:∀a,(a<zI p w\/zI p w+p.Cap+2<=a)->ld m' a=ld m a):(∀a,zZ p<=a->ld m' a=ld m a) /\
  ∀v,1<=v->v<=p.Workers->v≠w->∀a,zI p v<=a->a<zI p v+p.Cap+2->ld m' a=ld m a:=by
 have hd:=Yl hp hw.1 hw.2
 refine ⟨fun a ha=>hm a (by omega),fun v h1 h2 hne a h3 h4=>hm a ?_⟩
 have:=zzr hp ⟨h1,h2⟩ hw hne
 omega
def WC (g:Gh) (w:Int) (t:Nat) (l:List Int) (c:Nat):Gh:={g with D:=fun v=>if v=w then l else g.D v,t:=fun v=>if v=w then t else g.t v,c:=fun v=>if v=w then c else g.c v}
theorem YR {g:Gh}{w v:Int}{t c:Nat}{l:List Int}(h:v≠w):(WC g w t l c).D v=g.D v/\(WC g w t l c).t v=g.t v/\(WC g w t l c).c v=g.c v:=by
 unfold WC;dsimp only;rw [if_neg h,if_neg h,if_neg h];exact ⟨rfl,rfl,rfl⟩
theorem wq {g:Gh}{w:Int}{t c:Nat}{l:List Int}:(WC g w t l c).D w=l/\(WC g w t l c).t w=t/\(WC g w t l c).c w=c:=by
 unfold WC;dsimp only;rw [if_pos rfl,if_pos rfl,if_pos rfl];exact ⟨rfl,rfl,rfl⟩
theorem SX.dq {p:zb}(hp:zB p) {nb k:Nat}{s s':za}{g:Gh}{own:List Int}(X:SX p nb s g own k) (S':SOk p nb s') (hl:s'.M.length=s.M.length) {w:Int}(hw:1<=w/\w<=p.Workers)
  (hm:∀a,(a<zI p w\/zI p w+p.Cap+2<=a)->ld s'.M a=ld s.M a) {t c:Nat}{l:List Int}(D:DQ p s'.M w t l c) (hk:t+l.length<=k+1+1000):SX p nb s' (WC g w t l c) own (k+1):=by
 obtain ⟨h1,h2⟩:=zuP hp hw hm
 have hE:=wo hp
 refine ⟨S',X.L.low hp hl h1,fun v a b=>?_,?_,fun v a b=>?_⟩
 ·by_cases e:v=w
  ·subst e
   rw [wq.1,wq.2.1,wq.2.2];exact D
  ·rw [(YR e).1,(YR e).2.1,(YR e).2.2]
   exact (X.D v a b).keep hp (h2 v a b e)
 ·rw [h1 _ (by omega),h1 _ (by omega)]
  exact ⟨Nat.le_succ_of_le X.v.1,Nat.le_succ_of_le X.v.2⟩
 ·by_cases e:v=w
  ·subst e
   rw [wq.1,wq.2.1];exact hk
  ·rw [(YR e).1,(YR e).2.1]
   have:=X.dk v a b;omega
theorem FX.own {p:zb}(hp:zB p) {nb:Nat}{Y:List Int}{O:Int->Prop}{s s':za}{g:Gh}{w:Int}(hw:1<=w/\w<=p.Workers)
  (hm:∀a,(a<zI p w\/zI p w+p.Cap+2<=a)->ld s'.M a=ld s.M a) (hb:s'.Bins=s.Bins) {t c:Nat}{l:List Int}(hO:O w) (V:Dv (g.t w) (g.D w) t l):FX p nb Y O s s' g (WC g w t l c):=by
 obtain ⟨h1,h2⟩:=zuP hp hw hm
 refine ⟨Mv.low hp h1,fun b _ _=>by rw [hb],fun v a b=>?_,fun _ h=>.inl h⟩
 by_cases e:v=w
 ·subst e
  right
  rw [wq.1,wq.2.1];exact ⟨hO,V⟩
 ·exact .inl (.same (YR e).2.1 (YR e).1 (YR e).2.2 (h2 v a b e))
theorem xA {α β:Type}{f g:α->List β}:∀ {l:List α},(∀x∈l,f x=g x)->l.flatMap f=l.flatMap g
 | [],_=>rfl
 | a::l,h=>by rw [zHA,zHA,h a (by simp),xA (fun x hx=>h x (zGU _ hx))]
theorem zze {n:Nat}{i:Nat}(h:i<n):∃a b,List.range n=a++i::b/\i∉a/\i∉b:=by
 refine ⟨List.range i,(List.range (n-i-1)).map (fun j=>i+1+j),?_,by simp,by simp;omega⟩
 have:n=i+(1+(n-i-1)):=by omega
 rw [this,List.range_add,List.range_add]
 simp [zH0,zHY,Function.comp_def]
theorem zph {p:zb}{s s':za}{g:Gh}(hb:s'.Bins=s.Bins) {w:Int}(hw:1<=w/\w<=p.Workers) {t c:Nat}{l:List Int}:∃a b,yo p s g=a++g.D w++b/\yo p s' (WC g w t l c)=a++l++b:=by
 obtain ⟨a,b,e,ha,hb'⟩:=zze (n:=p.Workers.toNat) (i:=(w-1).toNat) (by omega)
 have ew:(((w-1).toNat:Nat):Int)+1=w:=by omega
 have ne:∀j:Nat,j≠(w-1).toNat->(j:Int)+1≠w:=fun j hj e=>hj (by omega)
 refine ⟨g.F.flatMap (yw s)++a.flatMap (fun i:Nat=>g.D ((i:Int)+1)),b.flatMap (fun i:Nat=>g.D ((i:Int)+1)),?_,?_⟩
 ·unfold yo
  rw [e,zH7,zHA,ew]
  simp [zGR]
 ·unfold yo yw
  rw [hb,e,zH7,zHA,ew,wq.1]
  have h1:a.flatMap (fun i:Nat=>(WC g w t l c).D ((i:Int)+1))=a.flatMap (fun i:Nat=>g.D ((i:Int)+1)):=by
   refine xA (fun j hj=>?_);exact (YR (ne j (fun e=>ha (e▸hj)))).1
  have h2:b.flatMap (fun i:Nat=>(WC g w t l c).D ((i:Int)+1))=b.flatMap (fun i:Nat=>g.D ((i:Int)+1)):=by
   refine xA (fun j hj=>?_);exact (YR (ne j (fun e=>hb' (e▸hj)))).1
  rw [h1,h2]
  have hF:(WC g w t l c).F=g.F:=rfl
  rw [hF]
  simp [zGR]
theorem Mv.weak {p:zb}{nb:Nat}{m m':List (BitVec 64)}(M:Mv p nb [] m m') (Y:List Int):Mv p nb Y m m':=⟨M.hd,fun x a b _=>M.nx x a b (by simp)⟩
theorem Mv.grow {p:zb}{nb:Nat}{X Y:List Int}{m m':List (BitVec 64)}(M:Mv p nb X m m') (h:∀x∈X,x∈Y):Mv p nb Y m m':=⟨M.hd,fun x a b c=>M.nx x a b (fun e=>c (h x e))⟩
theorem SX.chain {p:zb}(hp:zB p) {nb k:Nat}{s s':za}{g:Gh}{own own' F E:List Int}(X:SX p nb s g own k) (S':SOk p nb s') (hlow:∀a,a<zZ p->ld s'.M a=ld s.M a) (L':LI p nb s'.M (zZ p) (zD p) F E own')
  (hv:xg (ld s'.M (zZ p))<=k+1/\xg (ld s'.M (zD p))<=k+1):SX p nb s' {g with F:=F,E:=E} own' (k+1) :=
 ⟨S',L',fun w h1 h2=>(X.D w h1 h2).keep hp (fun a h3 h4=>hlow a (by have:=Yl hp h1 h2;omega)),hv,fun w h1 h2=>by have:=X.dk w h1 h2;show g.t w+(g.D w).length<=_;omega⟩
theorem FX.chain {p:zb}(hp:zB p) {nb:Nat}{Y:List Int}{O:Int->Prop}{s s':za}{g:Gh}{F E:List Int}(M:Mv p nb Y s.M s'.M) (hb:s'.Bins=s.Bins) (hlow:∀a,a<zZ p->ld s'.M a=ld s.M a) (hF:∀y∈F,y∈g.F\/yw s' y≠[]):FX p nb Y O s s' g {g with F:=F,E:=E} :=
 ⟨M,fun _ _ _=>by rw [hb],fun w h1 h2=>.inl (.same rfl rfl rfl (fun a h3 h4=>hlow a (by have:=Yl hp h1 h2;omega))),hF⟩
theorem SX.popE {p:zb}(hp:zB p) {nb k:Nat}{s:za}{g:Gh}{own:List Int}(X:SX p nb s g own k) (hk:k<4294960000) {c:zE}(kd:c.Kind=2) (hh:c.Head=zD p) (hN:c.Next=zD p) (ho:c.Out=0) (hpc:0<=c.PC/\c.PC<=2) (K:CK p s.M c)
  (hn:1<=c.PC->1<=yg c.H/\yg c.H<nb) (S':SOk p nb {s with M:=(zn s.M c).1}) :
  ((zn s.M c).1=s.M/\(zn s.M c).2.Out≠1/\CK p s.M (zn s.M c).2/\((zn s.M c).2.Out=2->g.E=[])) \/
  (∃x l,g.E=x::l/\(zn s.M c).2.Out=1/\(zn s.M c).2.X=x/\SX p nb {s with M:=(zn s.M c).1} {g with E:=l} (x::own) (k+1)/\∀Y O,FX p nb Y O s {s with M:=(zn s.M c).1} g {g with E:=l}):=by
 have hE:=wo hp
 have hnb:=X.S.nbk
 have hv:=X.v
 have hcells:=fun a (ha:a≠c.Head)=>zpk s.M kd ha
 rcases zx6 hp hnb.2 (L:=X.L.swap) kd hh hN ho hpc K hn (by omega) with ⟨a,b,e,d⟩ | ⟨x,l,a,b,e,d,f,v1,v2⟩
 ·exact .inl ⟨a,b,d,e⟩
 ·refine .inr ⟨x,l,a,b,e,X.chain hp S' (fun a ha=>hcells a (by omega)) d.swap ?_,fun Y O=>FX.chain hp (f.weak Y) rfl (fun a ha=>hcells a (by omega)) (fun _ h=>.inl h)⟩
  rw [v2,v1];omega
theorem SX.popF {p:zb}(hp:zB p) {nb k:Nat}{s:za}{g:Gh}{own:List Int}(X:SX p nb s g own k) (hk:k<4294960000) {c:zE}(kd:c.Kind=2) (hh:c.Head=zZ p) (hN:c.Next=zD p) (ho:c.Out=0) (hpc:0<=c.PC/\c.PC<=2) (K:CK p s.M c)
  (hn:1<=c.PC->1<=yg c.H/\yg c.H<nb) (S':SOk p nb {s with M:=(zn s.M c).1}) :
  ((zn s.M c).1=s.M/\(zn s.M c).2.Out≠1/\CK p s.M (zn s.M c).2/\((zn s.M c).2.Out=2->g.F=[])) \/
  (∃x l,g.F=x::l/\(zn s.M c).2.Out=1/\(zn s.M c).2.X=x/\SX p nb {s with M:=(zn s.M c).1} {g with F:=l} (x::own) (k+1)/\∀Y O,FX p nb Y O s {s with M:=(zn s.M c).1} g {g with F:=l}):=by
 have hE:=wo hp
 have hnb:=X.S.nbk
 have hv:=X.v
 have hcells:=fun a (ha:a≠c.Head)=>zpk s.M kd ha
 rcases zx6 hp hnb.2 (L:=X.L) kd hh hN ho hpc K hn (by omega) with ⟨a,b,e,d⟩ | ⟨x,l,a,b,e,d,f,v1,v2⟩
 ·exact .inl ⟨a,b,d,e⟩
 ·refine .inr ⟨x,l,a,b,e,X.chain hp S' (fun a ha=>hcells a (by omega)) d ?_,fun Y O=>FX.chain hp (f.weak Y) rfl (fun a ha=>hcells a (by omega)) (fun y hy=>.inl (by rw [a];exact zGU _ hy))⟩
  rw [v2,v1];omega
theorem SX.pushF {p:zb}(hp:zB p) {nb k:Nat}{s:za}{g:Gh}{o1 o2:List Int}{b:Int}(X:SX p nb s g (o1++b::o2) k) (hk:k<4294960000) {c:zE}(kd:c.Kind=1) (hh:c.Head=zZ p) (hN:c.Next=zD p) (hX:c.X=b) (ho:c.Out=0) (hpc:0<=c.PC/\c.PC<=2) (K:CK p s.M c)
  (hn:1<=c.PC->yg c.H<nb) (S':SOk p nb {s with M:=(zn s.M c).1}) :
  ((zn s.M c).2.Out=0/\SX p nb {s with M:=(zn s.M c).1} g (o1++b::o2) (k+1)/\CK p (zn s.M c).1 (zn s.M c).2/\(∀Y O,b∈Y->FX p nb Y O s {s with M:=(zn s.M c).1} g g)) \/
  ((zn s.M c).2.Out=1/\SX p nb {s with M:=(zn s.M c).1} {g with F:=b::g.F} (o1++o2) (k+1)/\(∀Y O,yw s b≠[]->FX p nb Y O s {s with M:=(zn s.M c).1} g {g with F:=b::g.F})):=by
 have hE:=wo hp
 have hnb:=X.S.nbk
 have hv:=X.v
 rcases zwt hp hnb.2 (L:=X.L) kd hh hN hX ho hpc K hn (by omega) with ⟨a,l,d,e,f⟩ | ⟨a,l,d,e,f⟩
 ·refine .inl ⟨a,X.chain hp S' (fun a ha=>f a (by omega)) l ?_,e,fun Y O hb=>FX.chain hp (d.grow (fun x hx=>by rw [zHo.1 hx];exact hb)) rfl (fun a ha=>f a (by omega)) (fun _ h=>.inl h)⟩
  show xg (ld (zn s.M c).1 (zZ p))<=_/\xg (ld (zn s.M c).1 (zD p))<=_
  rw [f _ (by omega),f _ (by omega)];omega
 ·refine .inr ⟨a,X.chain hp S' (fun a ha=>f a (by omega) (by omega)) l ?_,fun Y O hb=>FX.chain hp (d.weak Y) rfl (fun a ha=>f a (by omega) (by omega)) (fun y hy=>(zG7.1 hy).elim (fun e=>.inr (by rw [e];exact hb)) .inl)⟩
  show xg (ld (zn s.M c).1 (zZ p))<=_/\xg (ld (zn s.M c).1 (zD p))<=_
  have f':=f (zD p) (by omega) (by omega)
  rw [f'];omega
theorem SX.pushE {p:zb}(hp:zB p) {nb k:Nat}{s:za}{g:Gh}{o1 o2:List Int}{b:Int}(X:SX p nb s g (o1++b::o2) k) (hk:k<4294960000) {c:zE}(kd:c.Kind=1) (hh:c.Head=zD p) (hN:c.Next=zD p) (hX:c.X=b) (ho:c.Out=0) (hpc:0<=c.PC/\c.PC<=2) (K:CK p s.M c)
  (hn:1<=c.PC->yg c.H<nb) (S':SOk p nb {s with M:=(zn s.M c).1}) :
  ((zn s.M c).2.Out=0/\SX p nb {s with M:=(zn s.M c).1} g (o1++b::o2) (k+1)/\CK p (zn s.M c).1 (zn s.M c).2/\(∀Y O,b∈Y->FX p nb Y O s {s with M:=(zn s.M c).1} g g)) \/
  ((zn s.M c).2.Out=1/\SX p nb {s with M:=(zn s.M c).1} {g with E:=b::g.E} (o1++o2) (k+1)/\(∀Y O,FX p nb Y O s {s with M:=(zn s.M c).1} g {g with E:=b::g.E})):=by
 have hE:=wo hp
 have hnb:=X.S.nbk
 have hv:=X.v
 rcases zwt hp hnb.2 (L:=X.L.swap) kd hh hN hX ho hpc K hn (by omega) with ⟨a,l,d,e,f⟩ | ⟨a,l,d,e,f⟩
 ·refine .inl ⟨a,X.chain hp S' (fun a ha=>f a (by omega)) l.swap ?_,e,fun Y O hb=>FX.chain hp (d.grow (fun x hx=>by rw [zHo.1 hx];exact hb)) rfl (fun a ha=>f a (by omega)) (fun _ h=>.inl h)⟩
  show xg (ld (zn s.M c).1 (zZ p))<=_/\xg (ld (zn s.M c).1 (zD p))<=_
  rw [f _ (by omega),f _ (by omega)];omega
 ·refine .inr ⟨a,X.chain hp S' (fun a ha=>f a (by omega) (by omega)) l.swap ?_,fun Y O=>FX.chain hp (d.weak Y) rfl (fun a ha=>f a (by omega) (by omega)) (fun _ h=>.inl h)⟩
  show xg (ld (zn s.M c).1 (zZ p))<=_/\xg (ld (zn s.M c).1 (zD p))<=_
  have f':=f (zZ p) (by omega) (by omega)
  rw [f'];omega
end
end Go.Pe.G
namespace Go.Pe.G
open Go.Pe
noncomputable section
theorem zFX {p:zb}{s:za}{g:Gh}{b:Int}:yo p s {g with F:=b::g.F}=yw s b++yo p s g:=by
 unfold yo;simp [zGR]
theorem zF1 {p:zb}{s:za}{g:Gh}{l:List Int}:yo p s {g with E:=l}=yo p s g:=rfl
theorem zDG {l:List Int}{t:Nat}{x:Int}:Dv t l t (l++[x]):=⟨zGQ _,fun _ h=>⟨by simp,by cases l with | nil=>exact absurd rfl h | cons a l=>rfl⟩⟩
theorem zAB {p:zb}(hp:zB p) {nb k:Nat}{R:List Int}{gh:Gh}{s:za}{g:zu}(hk:k<4294960000) (X:SX p nb s gh (x8 g++R) k) (M:MOk p nb g) (h5o:g.PC=5->g.C.Out≠1) (G:GX p s gh g) :
  zqP p nb k R gh s g (zx s g).1 (zx s g).2:=by
 have S':=(zqN hp X.S M h5o).1
 have hP:=X.S.P
 have hpc:=G.pc
 have hmd:=G.md
 have hob:=G.ob
 revert S'
 unfold zx
 by_cases h0:g.Out=0
 rotate_left
 ·rw [if_pos (.inl h0)]
  intro S'
  exact .quiet X S' rfl rfl rfl rfl rfl G.c0 G
 rw [if_neg (by omega)]
 have hc0:g.Mode=1->gh.c g.Who=0:=fun h=>G.c0 h h0
 by_cases p7:g.PC=7
 ·rw [if_pos p7]
  obtain ⟨c1,c2,c3,c4,c5⟩:=G.c7 p7 h0
  obtain ⟨m1,m2,m3,m4,m5⟩:=M.c7 p7
  have eo:x8 g=[g.Bin]:=zjg h0 (.inr p7)
  have eh:ym g=[g.Obj]:=vG h0 (by omega) (by omega)
  rw [eo] at X
  intro S'
  have S':SOk p nb {s with M:=(zn s.M g.C).1}:=S'
  unfold zcK
  dsimp only
  rcases SX.pushF hp (o1:=[]) (o2:=R) (b:=g.Bin) X hk m1 m2 m3 c3 c1 c2 c4 m5 S' with ⟨a,b,c,d⟩ | ⟨a,b,d⟩
  ·rw [a]
   rw [if_neg (by decide)]
   have hout:=zbk s.M c1 c2 (.inl m1)
   have hsame:=zmf s.M g.C
   have hpc':0<=(zn s.M g.C).2.PC/\(zn s.M g.C).2.PC<=2:=by omega
   refine ⟨gh,by rw [show x8 {g with C:=(zn s.M g.C).2}=[g.Bin] from zjg h0 (.inr p7)];exact b,?_,by rw [eo];exact d _ _ (by simp),fun h _=>hc0 h,fun _ h=>.inl h,[],?_,.inl ⟨rfl,rfl⟩⟩
   ·exact ⟨.inl h0,hpc,hmd,hob,fun h _=>hc0 h,fun e=>by have e:g.PC=5:=e;omega,fun _ _=>⟨a,hpc',(hsame.2.2.2 m1).trans c3,c,c5⟩,fun e=>by have e:g.PC=3:=e;omega⟩
   ·rw [uL rfl,show ym {g with C:=(zn s.M g.C).2}=[g.Obj] from vG h0 (by show (3:Int)<=g.PC;omega) (by show g.PC<=7;omega),eh]
    exact zHb _
  ·rw [a,if_pos rfl]
   have e1:x8 {g with C:=(zn s.M g.C).2,Out:=1}=[]:=vg (.inl (by show (1:Int)≠0;decide))
   have e2:ym {g with C:=(zn s.M g.C).2,Out:=1}=[]:=Zt (.inl (by show (1:Int)≠0;decide))
   refine ⟨{gh with F:=g.Bin::gh.F},by rw [e1];exact b,?_,by rw [eo];exact d _ _ (by unfold yw;rw [c5];exact List.cons_ne_nil _ _),fun h _=>hc0 h,fun y hy=>(zG7.1 hy).elim (fun e=>.inr (by rw [e];unfold yw;rw [show ({s with M:=(zn s.M g.C).1}:za).Bins=s.Bins from rfl,c5];exact List.cons_ne_nil _ _)) .inl,[],?_,.inl ⟨rfl,rfl⟩⟩
   ·exact GX.plain (.inr rfl) hpc hmd hob (fun _ e=>by cases e) (.inl (by show (1:Int)≠0;decide))
   ·rw [e2,eh,zFX,uL rfl,zGO]
    have:yw {s with M:=(zn s.M g.C).1} g.Bin=[g.Obj]:=by unfold yw;rw [show ({s with M:=(zn s.M g.C).1}:za).Bins=s.Bins from rfl,c5];rfl
    rw [this]
    exact zHw
 rw [if_neg p7]
 by_cases p6:g.PC=6
 ·rw [if_pos p6]
  have eo:x8 g=[g.Bin]:=zjg h0 (.inl p6)
  have eh:ym g=[g.Obj]:=vG h0 (by omega) (by omega)
  have hb:=M.b6 p6
  have hbl:=X.S.bins
  intro S'
  unfold zwZ
  unfold zwZ at S'
  have e1:x8 {g with PC:=7,C:=⟨1,0,zZ s.P,zD s.P,0#64,g.Bin,0,0⟩}=[g.Bin]:=zjg h0 (.inr rfl)
  have hget:∀b,1<=b->b∉x8 g->(s.Bins.set g.Bin.toNat [g.Obj])[b.toNat]? =s.Bins[b.toNat]? :=fun b b1 b2=>by
   rw [zHt]
   intro e
   rw [eo] at b2
   exact b2 (by rw [show b=g.Bin by omega];simp)
  refine ⟨gh,by rw [e1,<-eo];exact X.quiet S' rfl,?_,FX.quiet rfl hget,fun h _=>hc0 h,fun _ h=>.inl h,[],?_,.inl ⟨rfl,rfl⟩⟩
  ·refine ⟨.inl h0,⟨by show (0:Int)<=7;decide,by show (7:Int)<=7;decide⟩,hmd,hob,fun h _=>hc0 h,fun e=>absurd e (by show ¬(7:Int)=5;decide),fun _ _=>⟨rfl,⟨by show (0:Int)<=0;decide,by show (0:Int)<=2;decide⟩,rfl,⟨fun e=>absurd e (by show ¬(1:Int)<=0;decide),fun e=>absurd e (by show ¬(0:Int)=2;decide),fun e=>absurd e (by show ¬(0:Int)=2;decide)⟩,?_⟩,fun e=>absurd e (by show ¬(7:Int)=3;decide)⟩
   show (s.Bins.set g.Bin.toNat [g.Obj])[g.Bin.toNat]? =_
   rw [zIq (by omega)]
  ·rw [show ym {g with PC:=7,C:=⟨1,0,zZ s.P,zD s.P,0#64,g.Bin,0,0⟩}=[g.Obj] from vG h0 (by show (3:Int)<=7;decide) (by show (7:Int)<=7;decide),eh]
   have:yo p {s with Bins:=s.Bins.set g.Bin.toNat [g.Obj]} gh=yo p s gh:=by
    unfold yo
    congr 1
    refine xA (fun b hb=>?_)
    have hm:=X.L.cF.mem b hb
    have hno:=(X.L.notF (x:=g.Bin) (by rw [eo];simp)).1
    unfold yw
    rw [show ({s with Bins:=s.Bins.set g.Bin.toNat [g.Obj]}:za).Bins=s.Bins.set g.Bin.toNat [g.Obj] from rfl,hget b hm.1 (by rw [eo];intro e;rw [zHo.1 e] at hb;exact hno hb)]
   rw [this];exact zHb _
 rw [if_neg p6]
 have eo:x8 g=[]:=vg (.inr ⟨p6,p7⟩)
 by_cases p5:g.PC=5
 ·rw [if_pos p5]
  obtain ⟨c1,c2,c3⟩:=G.c5 p5 h0
  obtain ⟨m1,m2,m3,m4,m5⟩:=M.c5 p5
  have eh:ym g=[g.Obj]:=vG h0 (by omega) (by omega)
  intro S'
  have S':SOk p nb {s with M:=(zn s.M g.C).1}:=S'
  unfold zlD
  dsimp only
  rcases SX.popE hp X hk m1 m2 m3 c1 c2 c3 m4 S' with ⟨a,b,c,d⟩ | ⟨x,l,a,b,c,d,e⟩
  ·rw [if_neg b]
   have hout:=zbk s.M c1 c2 (.inr m1)
   by_cases o2:(zn s.M g.C).2.Out=2
   ·rw [if_pos o2]
    refine .quiet X S' a rfl rfl ?_ ?_ G.c0 (GX.ask h0 hmd hob hc0 _)
    ·rw [eo];exact vg (.inr ⟨by show (5:Int)≠6;decide,by show (5:Int)≠7;decide⟩)
    ·rw [eh];exact vG h0 (by show (3:Int)<=5;decide) (by show (5:Int)<=7;decide)
   ·rw [if_neg o2]
    have hpc':(zn s.M g.C).2.Out=0/\0<=(zn s.M g.C).2.PC/\(zn s.M g.C).2.PC<=2:=by omega
    refine .quiet X S' a rfl rfl ?_ ?_ G.c0 ⟨.inl h0,hpc,hmd,hob,G.c0,fun _ _=>⟨hpc'.1,hpc'.2,by rw [show ({s with M:=(zn s.M g.C).1}:za).M=s.M from a];exact c⟩,fun e=>by have e:g.PC=7:=e;omega,fun e=>by have e:g.PC=3:=e;omega⟩
    ·rw [eo];exact vg (.inr ⟨p6,p7⟩)
    ·rw [eh];exact vG h0 (by show (3:Int)<=g.PC;omega) (by show g.PC<=7;omega)
  ·rw [if_pos b]
   have e1:x8 {g with PC:=6,C:=(zn s.M g.C).2,Bin:=(zn s.M g.C).2.X}=[x]:=by rw [<-c];exact zjg (g:={g with PC:=6,C:=(zn s.M g.C).2,Bin:=(zn s.M g.C).2.X}) h0 (.inl rfl)
   refine ⟨{gh with E:=l},by rw [e1];rw [eo] at d;exact d,?_,e _ _,fun h _=>hc0 h,fun _ h=>.inl h,[],?_,.inl ⟨rfl,rfl⟩⟩
   ·exact GX.plain (.inl h0) ⟨by show (0:Int)<=6;decide,by show (6:Int)<=7;decide⟩ hmd hob (fun h _=>hc0 h) (.inr ⟨by show (6:Int)≠3;decide,by show (6:Int)≠5;decide,by show (6:Int)≠7;decide⟩)
   ·rw [zF1,uL rfl,eh,show ym {g with PC:=6,C:=(zn s.M g.C).2,Bin:=(zn s.M g.C).2.X}=[g.Obj] from vG h0 (by show (3:Int)<=6;decide) (by show (6:Int)<=7;decide)]
    exact zHb _
 rw [if_neg p5]
 by_cases p4:g.PC=4
 ·rw [if_pos p4]
  intro S'
  refine .quiet X S' rfl rfl rfl ?_ ?_ G.c0 (GX.ask h0 hmd hob hc0 _)
  ·rw [eo];exact vg (.inr ⟨by show (5:Int)≠6;decide,by show (5:Int)≠7;decide⟩)
  ·rw [vG h0 (by omega) (by omega)];exact vG h0 (by show (3:Int)<=5;decide) (by show (5:Int)<=7;decide)
 rw [if_neg p4]
 by_cases p3:g.PC=3
 ·rw [if_pos p3]
  obtain ⟨c1,c2,c3⟩:=G.d3 p3 h0
  have hw:=M.who c1
  have eh:ym g=[g.Obj]:=vG h0 (by omega) (by omega)
  have hdk:=X.dk g.Who hw.1 hw.2
  have hlen:=X.L.len
  have hE:=wo hp
  have hc00:=c3.c0
  have c3':=c3
  rw [hc00] at c3'
  have D0:=X.D g.Who hw.1 hw.2
  rw [hc00] at D0
  obtain ⟨a,b,r⟩:=zwY hp hw (by omega) D0 c3' (by omega) (by rw [c2];omega)
  intro S'
  have S':SOk p nb {s with M:=(yE s.M g.D).1}:=S'
  unfold zll
  dsimp only
  rcases r with ⟨r1,r2,r3⟩ | ⟨r1,r2⟩ | ⟨r1,r2⟩
  ·rw [r1,if_neg (by decide),if_neg (by decide)]
   have e1:x8 {g with D:=(yE s.M g.D).2}=[]:=vg (.inr ⟨p6,p7⟩)
   refine ⟨WC gh g.Who (gh.t g.Who) (gh.D g.Who) 0,?_,?_,FX.own (O:=zw3 g) (s:=s) (s':={s with M:=(yE s.M g.D).1}) (g:=gh) hp hw a rfl ⟨c1,rfl⟩ (Dv.refl _ _),fun _ _=>wq.2.2,fun _ h=>.inl h,[],?_,.inl ⟨rfl,rfl⟩⟩
   ·rw [e1];rw [eo] at X;exact X.dq hp S' (zik _ _) hw a r2 (by omega)
   ·refine ⟨.inl h0,hpc,hmd,hob,fun _ _=>wq.2.2,fun e=>by have e:g.PC=5:=e;omega,fun e=>by have e:g.PC=7:=e;omega,fun _ _=>⟨c1,b.trans c2,?_⟩⟩
    show DK p (yE s.M g.D).1 g.Who ((WC gh g.Who (gh.t g.Who) (gh.D g.Who) 0).t g.Who) _ _ _
    rw [wq.1,wq.2.1,wq.2.2];exact r3
   ·obtain ⟨u,v,f1,f2⟩:=zph (p:=p) (s:=s) (s':={s with M:=(yE s.M g.D).1}) (g:=gh) rfl hw (t:=gh.t g.Who) (c:=0) (l:=gh.D g.Who)
    rw [f1,f2,eh,show ym {g with D:=(yE s.M g.D).2}=[g.Obj] from vG h0 (by show (3:Int)<=g.PC;omega) (by show g.PC<=7;omega)]
    exact zHb _
  ·rw [r1,if_neg (by decide),if_pos rfl]
   have e1:x8 (zhS s.P {g with D:=(yE s.M g.D).2})=[]:=vg (.inr ⟨by show (5:Int)≠6;decide,by show (5:Int)≠7;decide⟩)
   refine ⟨WC gh g.Who (gh.t g.Who) (gh.D g.Who) 0,?_,?_,FX.own (O:=zw3 g) (s:=s) (s':={s with M:=(yE s.M g.D).1}) (g:=gh) hp hw a rfl ⟨c1,rfl⟩ (Dv.refl _ _),fun _ _=>wq.2.2,fun _ h=>.inl h,[],?_,.inl ⟨rfl,rfl⟩⟩
   ·rw [e1];rw [eo] at X;exact X.dq hp S' (zik _ _) hw a r2 (by omega)
   ·exact GX.ask (g:={g with D:=(yE s.M g.D).2}) h0 hmd hob (fun _=>wq.2.2) _
   ·obtain ⟨u,v,f1,f2⟩:=zph (p:=p) (s:=s) (s':={s with M:=(yE s.M g.D).1}) (g:=gh) rfl hw (t:=gh.t g.Who) (c:=0) (l:=gh.D g.Who)
    rw [f1,f2,eh,show ym (zhS s.P {g with D:=(yE s.M g.D).2})=[g.Obj] from vG h0 (by show (3:Int)<=5;decide) (by show (5:Int)<=7;decide)]
    exact zHb _
  ·rw [r1,if_pos rfl]
   have e1:x8 {g with D:=(yE s.M g.D).2,Out:=1}=[]:=vg (.inl (by show (1:Int)≠0;decide))
   refine ⟨WC gh g.Who (gh.t g.Who) (gh.D g.Who++[g.D.X]) 0,?_,?_,FX.own (O:=zw3 g) (s:=s) (s':={s with M:=(yE s.M g.D).1}) (g:=gh) hp hw a rfl ⟨c1,rfl⟩ zDG,fun _ _=>wq.2.2,fun _ h=>.inl h,[],?_,.inl ⟨rfl,rfl⟩⟩
   ·rw [e1];rw [eo] at X;exact X.dq hp S' (zik _ _) hw a r2 (by rw [zGZ,zIx];omega)
   ·exact GX.plain (.inr rfl) hpc hmd hob (fun _ e=>by cases e) (.inl (by show (1:Int)≠0;decide))
   ·obtain ⟨u,v,f1,f2⟩:=zph (p:=p) (s:=s) (s':={s with M:=(yE s.M g.D).1}) (g:=gh) rfl hw (t:=gh.t g.Who) (c:=0) (l:=gh.D g.Who++[g.D.X])
    rw [f1,f2,eh,show ym {g with D:=(yE s.M g.D).2,Out:=1}=[] from Zt (.inl (by show (1:Int)≠0;decide)),c2,zGO,zGV]
    simp only [zGR]
    refine zGY _ (zGY _ ?_)
    exact zHw
 rw [if_neg p3]
 by_cases p2:g.PC=2
 ·rw [if_pos p2]
  intro S'
  refine .quiet X S' rfl rfl rfl ?_ ?_ G.c0 (GX.plain (.inr rfl) hpc hmd hob (fun _ e=>by cases e) (.inl (by show (1:Int)≠0;decide)))
  ·rw [eo];exact vg (.inl (by show (1:Int)≠0;decide))
  ·rw [Zt (g:=g) (.inr (.inl (by omega)))];exact Zt (.inl (by show (1:Int)≠0;decide))
 rw [if_neg p2]
 by_cases p1:g.PC=1
 ·rw [if_pos p1]
  have eh:ym g=[]:=Zt (.inr (.inl (by omega)))
  intro S'
  unfold zlL
  unfold zlL at S'
  dsimp only at S' ⊢
  by_cases hs:(vw s.T g.Obj).2=false
  ·have eT:(vw s.T g.Obj).1=s.T:=by
    unfold vw at hs ⊢
    split at hs
    ·rename_i h1;rw [if_pos h1]
    ·rename_i h1
     split at hs
     ·cases hs
     ·rename_i h2;rw [if_neg h1,if_neg h2]
   rw [if_pos hs]
   refine .quiet X S' rfl rfl eT ?_ ?_ G.c0 (GX.plain (.inl h0) ⟨by show (0:Int)<=2;decide,by show (2:Int)<=7;decide⟩ hmd hob G.c0 (.inr ⟨by show (2:Int)≠3;decide,by show (2:Int)≠5;decide,by show (2:Int)≠7;decide⟩))
   ·rw [eo];exact vg (.inr ⟨by show (2:Int)≠6;decide,by show (2:Int)≠7;decide⟩)
   ·rw [eh];exact Zt (.inr (.inl (by show (2:Int)<3;decide)))
  ·have eT: ¬(s.T.Marks|||bit g.Obj=s.T.Marks)/\(vw s.T g.Obj).1={s.T with Marks:=s.T.Marks|||bit g.Obj}:=by
    unfold vw at hs ⊢
    split at hs
    ·exact absurd rfl hs
    ·rename_i h1
     split at hs
     ·rename_i h2;exact ⟨h1,by rw [if_neg h1,if_pos h2]⟩
     ·exact absurd rfl hs
   rw [if_neg hs]
   have fin:∀g':zu,x8 g'=[]->ym g'=[g.Obj]->GX p {s with T:=(vw s.T g.Obj).1} gh g'->zqP p nb k R gh s g {s with T:=(vw s.T g.Obj).1} g':=fun g' a b c =>
    ⟨gh,by rw [a,<-eo];exact X.quiet S' rfl,c,FX.quiet rfl (fun _ _ _=>rfl),fun h _=>hc0 h,fun _ h=>.inl h,[g.Obj],by rw [uL rfl,b,eh,zGO];exact zHw,.inr ⟨rfl,eT.1,eT.2⟩⟩
   by_cases q1:g.Mode=1
   ·rw [if_pos q1]
    have hw:=M.who q1
    refine fin _ (vg (.inr ⟨by show (3:Int)≠6;decide,by show (3:Int)≠7;decide⟩)) (vG h0 (by show (3:Int)<=3;decide) (by show (3:Int)<=7;decide))
     ⟨.inl h0,⟨by show (0:Int)<=3;decide,by show (3:Int)<=7;decide⟩,hmd,hob,G.c0,fun e=>absurd e (by show ¬(3:Int)=5;decide),fun e=>absurd e (by show ¬(3:Int)=7;decide),fun _ _=>⟨q1,rfl,⟨rfl,by rw [hP],by rw [hP],rfl,hc0 q1,⟨by show (0:Int)<=0;decide,by show (0:Int)<=3;decide⟩,fun e=>absurd e (by show ¬(1:Int)<=0;decide),fun e=>absurd e (by show ¬(2:Int)<=0;decide),fun e=>absurd e (by show ¬(3:Int)<=0;decide)⟩⟩⟩
   rw [if_neg q1]
   by_cases q2:g.Mode=2
   ·rw [if_pos q2]
    exact fin _ (vg (.inr ⟨by show (4:Int)≠6;decide,by show (4:Int)≠7;decide⟩)) (vG h0 (by show (3:Int)<=4;decide) (by show (4:Int)<=7;decide))
     (GX.plain (.inl h0) ⟨by show (0:Int)<=4;decide,by show (4:Int)<=7;decide⟩ hmd hob G.c0 (.inr ⟨by show (4:Int)≠3;decide,by show (4:Int)≠5;decide,by show (4:Int)≠7;decide⟩))
   ·rw [if_neg q2]
    exact fin _ (vg (.inr ⟨by show (5:Int)≠6;decide,by show (5:Int)≠7;decide⟩)) (vG h0 (by show (3:Int)<=5;decide) (by show (5:Int)<=7;decide)) (GX.ask h0 hmd hob hc0 _)
 ·rw [if_neg p1]
  intro S'
  refine .quiet X S' rfl rfl rfl ?_ ?_ G.c0 (GX.plain (.inl h0) ⟨by show (0:Int)<=1;decide,by show (1:Int)<=7;decide⟩ hmd hob G.c0 (.inr ⟨by show (1:Int)≠3;decide,by show (1:Int)≠5;decide,by show (1:Int)≠7;decide⟩))
  ·rw [eo];exact vg (.inr ⟨by show (1:Int)≠6;decide,by show (1:Int)≠7;decide⟩)
  ·rw [Zt (g:=g) (.inr (.inl (by omega)))];exact Zt (.inr (.inl (by show (1:Int)<3;decide)))
end
end Go.Pe.G
