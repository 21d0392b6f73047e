/- Own work of this seat: G4f, EQ, G2i, GH, G3. -/
import Derived.Test.YthmdgkhilfpgfaaGreatDoorDDGa
set_option linter.unusedVariables false
set_option linter.unusedSectionVars false
set_option linter.unusedSimpArgs false
set_option linter.unnecessarySimpa false
set_option linter.deprecated false
set_option maxRecDepth 100000
namespace Go.Pe.G
open Go.Pe
theorem zjV (a1:zN):UB a1 =
 bif decide (a1.Worker.PC=0) then
 bif decide (a1.Worker.PC=0) then
  (WC a1).bind fun y1 =>
  some (y1.1,())
 else
  bif decide (a1.Worker.PC=2) then
  (uG a1).bind fun y2 =>
  bif decide (y2.1=1) then
   some ({y2.2.1 with Worker:={y2.2.1.Worker with PC:=3,Bin:=y2.2.1.Worker.C.X}},())
  else
   bif decide (y2.1=2) then
   (uh y2.2.1).bind fun y3 =>
   some (y3.1,())
   else
   some (y2.2.1,())
  else
  bif decide (a1.Worker.PC=3) then
   (UC a1).bind fun y4 =>
   some (y4.1,())
  else
   bif decide (a1.Worker.PC=4) then
   (uG a1).bind fun y5 =>
   bif decide (y5.1=1) then
    some ({y5.2.1 with Worker:={y5.2.1.Worker with PC:=7,Bin:=0}},())
   else
    some (y5.2.1,())
   else
   bif decide (a1.Worker.PC=5) then
    (UU a1).bind fun y6 =>
    some (y6.1,())
   else
    bif decide (a1.Worker.PC=6) then
    (zcu a1.s a1.Worker.G).bind fun y7 =>
    bif decide (y7.2.1.Out=1) then
     (W5 (zN.mk {a1.Worker with G:=y7.2.1} y7.1 a1.w)).bind fun y8 =>
     some (zN.mk {a1.Worker with PC:=y8.1,G:=y7.2.1} y7.1 a1.w,())
    else
     some (zN.mk {a1.Worker with G:=y7.2.1} y7.1 a1.w,())
    else
    bif decide (a1.Worker.PC=7) then
     bif decide (((a1.Worker.Batch.length:Int))=0) then
     (uh a1).bind fun y9 =>
     some (y9.1,())
     else
     (idx a1.Worker.Batch 0).bind fun x10 =>
     (Xx x10 a1).bind fun y11 =>
     (cut y11.1.Worker.Batch 1 ((y11.1.Worker.Batch.length:Int))).bind fun l12 =>
     some ({y11.1 with Worker:={y11.1.Worker with Batch:=l12}},())
    else
     bif decide (a1.Worker.PC=8) then
     (zar a1.s.T a1.Worker.Obj).bind fun y13 =>
     (zad a1.s.L 0).bind fun y14 =>
     some (zN.mk {a1.Worker with PC:=9} {a1.s with T:=y13.1,L:=y14.1} a1.w,())
     else
     bif decide (a1.Worker.PC=9) then
      some (zN.mk {a1.Worker with PC:=7,Obj:=0} {a1.s with Work:=w64 (a1.s.Work-1)} a1.w,())
     else
      some (a1,())
 else
 bif decide (a1.Worker.PC=1) then
  (WC a1).bind fun y15 =>
  some (y15.1,())
 else
  bif decide (a1.Worker.PC=2) then
  (uG a1).bind fun y16 =>
  bif decide (y16.1=1) then
   some ({y16.2.1 with Worker:={y16.2.1.Worker with PC:=3,Bin:=y16.2.1.Worker.C.X}},())
  else
   bif decide (y16.1=2) then
   (uh y16.2.1).bind fun y17 =>
   some (y17.1,())
   else
   some (y16.2.1,())
  else
  bif decide (a1.Worker.PC=3) then
   (UC a1).bind fun y18 =>
   some (y18.1,())
  else
   bif decide (a1.Worker.PC=4) then
   (uG a1).bind fun y19 =>
   bif decide (y19.1=1) then
    some ({y19.2.1 with Worker:={y19.2.1.Worker with PC:=7,Bin:=0}},())
   else
    some (y19.2.1,())
   else
   bif decide (a1.Worker.PC=5) then
    (UU a1).bind fun y20 =>
    some (y20.1,())
   else
    bif decide (a1.Worker.PC=6) then
    (zcu a1.s a1.Worker.G).bind fun y21 =>
    bif decide (y21.2.1.Out=1) then
     (W5 (zN.mk {a1.Worker with G:=y21.2.1} y21.1 a1.w)).bind fun y22 =>
     some (zN.mk {a1.Worker with PC:=y22.1,G:=y21.2.1} y21.1 a1.w,())
    else
     some (zN.mk {a1.Worker with G:=y21.2.1} y21.1 a1.w,())
    else
    bif decide (a1.Worker.PC=7) then
     bif decide (((a1.Worker.Batch.length:Int))=0) then
     (uh a1).bind fun y23 =>
     some (y23.1,())
     else
     (idx a1.Worker.Batch 0).bind fun x24 =>
     (Xx x24 a1).bind fun y25 =>
     (cut y25.1.Worker.Batch 1 ((y25.1.Worker.Batch.length:Int))).bind fun l26 =>
     some ({y25.1 with Worker:={y25.1.Worker with Batch:=l26}},())
    else
     bif decide (a1.Worker.PC=8) then
     (zar a1.s.T a1.Worker.Obj).bind fun y27 =>
     (zad a1.s.L 0).bind fun y28 =>
     some (zN.mk {a1.Worker with PC:=9} {a1.s with T:=y27.1,L:=y28.1} a1.w,())
     else
     bif decide (a1.Worker.PC=9) then
      some (zN.mk {a1.Worker with PC:=7,Obj:=0} {a1.s with Work:=w64 (a1.s.Work-1)} a1.w,())
     else
      some (a1,()):=zx (by kernel_rfl)
theorem Vt (a1:List ze):vl a1 =
 bif a1.isEmpty then
 zk4 (
  some (([]:List ze),())) (
  (wO (([]:List ze)++a1)).bind fun l1 =>
  some (l1,()))
 else
 (wO (([]:List ze)++a1)).bind fun l2 =>
 some (l2,()):=zx (by kernel_rfl)
theorem zqE (a1:za) (a2:Int):zgY a1 a2 =
 bif a1.Done then
 some (a1,())
 else
 bif decide (a2<1) then
  some (a1,())
 else
  bif decide (((a1.Ws.length:Int))<a2) then
  some (a1,())
  else
  (idx a1.Ws (w64 (a2-1))).bind fun x1 =>
  (UB (zN.mk x1 a1 a2)).bind fun y2 =>
  (vl y2.1.s.Ws).bind fun y3 =>
  (xM y3.1 (w64 (a2-1))).bind fun n4 =>
  some ({y2.1.s with Ws:=y3.1.set n4 y2.1.Worker},()):=zx (by kernel_rfl)
theorem zmA (a1:za) (a2:BitVec 8):zb4 a1 a2 =
 bif decide ((w64 ((w64 (1+((a1.Ws.length:Int))))+((a1.Ms.length:Int))))=0) then
 none
 else
 bif decide ((((a2.toNat:Int)).tmod (w64 ((w64 (1+((a1.Ws.length:Int))))+((a1.Ms.length:Int)))))=0) then
  (zcF a1).bind fun y1 =>
  some (y1.1,())
 else
  bif decide ((((a2.toNat:Int)).tmod (w64 ((w64 (1+((a1.Ws.length:Int))))+((a1.Ms.length:Int)))))≤((a1.Ws.length:Int))) then
  (zgY a1 (((a2.toNat:Int)).tmod (w64 ((w64 (1+((a1.Ws.length:Int))))+((a1.Ms.length:Int)))))).bind fun y2 =>
  some (y2.1,())
  else
  (XR a1 (w64 ((((a2.toNat:Int)).tmod (w64 ((w64 (1+((a1.Ws.length:Int))))+((a1.Ms.length:Int)))))-((a1.Ws.length:Int))))).bind fun y3 =>
  some (y3.1,()):=zx (by kernel_rfl)
theorem zr0 (a1:zt):znW a1 =
 some (a1.Marks&&& ~~~a1.Black,()):=zx (by kernel_rfl)
theorem zlK (s1:BitVec 64) (s2:List Int) (s3:Int):zaw (s1,s2,s3,()) =
 bif decide (s3<64) then
 (zfi s2 64 s3).bind fun n1 =>
 (s2[n1]?).bind fun x2 =>
 bif decide (0<x2) then
  (za4 s1 (w64 (s3+1))).bind fun y3 =>
  some (.again (y3.1,s2,w64 (s3+1),()))
 else
  some (.again (s1,s2,w64 (s3+1),()))
 else
 some (.brk (s1,())):=by kernel_rfl
theorem znO (a1:List Int):zcZ a1 =
 bif decide (a1.length=64) then
 (yH zaw (0#64,a1,0,())).bind fun st=>match st with
  | .again _=>none
  | .brk y1 =>
  some (y1.1,())
  | .ret y1 =>
  none
 else
 none:=zx (by kernel_rfl)
theorem zpM (a1:Int):zlP a1 =
 some (true,()):=zx (by kernel_rfl)
theorem Xj (s1:BitVec 64) (s2:Int) (s3:Int) (s4:zr) (s5:List Int) (s6:List Int) (s7:List Int):ZC (s1,s2,s3,s4,s5,s6,s7,()) =
 bif decide (s3<s2) then
 (xM s7 s3).bind fun n1 =>
 (s7[n1]?).bind fun x2 =>
 (zfi s6 64 (w64 (x2-1))).bind fun n3 =>
 some (.again (s1,s2,w64 (s3+1),s4,s5,s6.set n3 1,s7,()))
 else
 some (.brk (s1,s4,s5,s6,s7,())):=by kernel_rfl
theorem uP (s1:BitVec 64) (s2:zr) (s3:List Int) (s4:List Int) (s5:List Int):ZE (s1,s2,s3,s4,s5,()) =
 bif decide (0<((s5.length:Int))) then
 (xM s5 0).bind fun n1 =>
 (s5[n1]?).bind fun x2 =>
 (zlP x2).bind fun y3 =>
 bif !y3.1 then
  (cut s5 1 ((s5.length:Int))).bind fun l4 =>
  some (.again (s1,s2,s3,s4,l4,()))
 else
  (idx s2.Objs (w64 (x2-1))).bind fun x5 =>
  (yH vD (s1,x2,x5,(x5.length:Int),0,s2,s3,s4,s5,())).bind fun st=>match st with
   | .again _=>none
   | .brk y6 =>
   (cut y6.2.2.2.2.1 1 ((y6.2.2.2.2.1.length:Int))).bind fun l7 =>
   some (.again (y6.1,y6.2.1,y6.2.2.1,y6.2.2.2.1,l7,()))
   | .ret y6 =>
   some (.ret (()))
 else
 some (.brk (s3,s4,())):=by kernel_rfl
theorem Y3 (s1:BitVec 64) (s2:Int) (s3:List Int) (s4:Int) (s5:Int) (s6:zr) (s7:List Int) (s8:List Int) (s9:List Int):vD (s1,s2,s3,s4,s5,s6,s7,s8,s9,()) =
 bif decide (s5<s4) then
 (idx s3 s5).bind fun x1 =>
 (zdd s1 x1).bind fun y2 =>
 bif y2.1 then
  (zfi s8 64 (w64 (x1-1))).bind fun n3 =>
  (s8[n3]?).bind fun x4 =>
  bif decide (x4=0) then
  (zfi s8 64 (w64 (s2-1))).bind fun n5 =>
  (s8[n5]?).bind fun x6 =>
  (zfi s8 64 (w64 (x1-1))).bind fun n7 =>
  (wO (s9++([x1]:List Int))).bind fun l8 =>
  some (.again (s1,s2,s3,s4,w64 (s5+1),s6,s7,s8.set n7 (w64 (x6+1)),l8,()))
  else
  some (.again (s1,s2,s3,s4,w64 (s5+1),s6,s7,s8,s9,()))
 else
  some (.again (s1,s2,s3,s4,w64 (s5+1),s6,s7,s8,s9,()))
 else
 some (.brk (s1,s6,s7,s8,s9,())):=by kernel_rfl
theorem zdt (a1:zr) (a2:BitVec 64):Yn a1 a2 =
 (zf2 ((a1.Objs.length:Int))).bind fun y1 =>
 (zeg (a2&&&y1.1)).bind fun y2 =>
 (yH ZC (y1.1,(y2.1.length:Int),0,a1,List.replicate 64 ((0:Int)),List.replicate 64 ((0:Int)),y2.1,())).bind fun st=>match st with
  | .again _=>none
  | .brk y3 =>
  (yH ZE (y3.1,y3.2.1,y3.2.2.1,y3.2.2.2.1,y3.2.2.2.2.1,())).bind fun st=>match st with
   | .again _=>none
   | .brk y4 =>
   bif decide (y4.2.1.length=64) then
   bif decide (y4.1.length=64) then
    bif decide (y4.2.1.length=64) then
    some (y4.2.1,())
    else
    none
   else
    none
   else
   none
   | .ret y4 =>
   none
  | .ret y3 =>
  none:=zx (by kernel_rfl)
theorem zrv (a1:zr) (a2:BitVec 64):Ut a1 a2 =
 (Yn a1 a2).bind fun y1 =>
 (zcZ y1.1).bind fun y2 =>
 some (y2.1,()):=zx (by kernel_rfl)
theorem zsT (a1:zb):zlt a1 =
 (zec a1).bind fun y1 =>
 (Ut a1.H y1.1).bind fun y2 =>
 some (y2.1,()):=zx (by kernel_rfl)
theorem zex (s1:List (BitVec 8)) (s2:Bool) (s3:Int) (s4:za):Xc (s1,s2,s3,s4,()) =
 bif decide (s3<1500) then
 bif !s4.Done then
  bif decide (0<((s1.length:Int))) then
  bif decide (((s1.length:Int))=0) then
   none
  else
   (idx s1 (s3.tmod ((s1.length:Int)))).bind fun x1 =>
   bif decide (((s1.length:Int))=0) then
   none
   else
   (zb4 s4 (x1+(BitVec.ofInt 8 (w64 (s3.tdiv ((s1.length:Int))))))).bind fun y2 =>
   some (.again (s1,s2,w64 (s3+1),y2.1,()))
  else
  some (.brk (s2,s4,()))
 else
  some (.brk (s2,s4,()))
 else
 some (.brk (s2,s4,())):=by kernel_rfl
theorem Vb (s1:Bool) (s2:BitVec 64) (s3:Int) (s4:za):wq (s1,s2,s3,s4,()) =
 bif decide (s3<((s4.Ms.length:Int))) then
 (idx s4.Ms s3).bind fun x1 =>
 bif !(decide (((x1.Buf.length:Int))=0)) then
  some (.ret (false,()))
 else
  (idx s4.Ms s3).bind fun x2 =>
  bif !(decide (((x2.Batch.length:Int))=0)) then
  some (.ret (false,()))
  else
  (idx s4.Ms s3).bind fun x3 =>
  bif !(decide (x3.Obj=0)) then
   some (.ret (false,()))
  else
   (idx s4.Ms s3).bind fun x4 =>
   (zmE x4.Regs).bind fun y5 =>
   some (.again (s1,s2|||y5.1,w64 (s3+1),s4,()))
 else
 some (.brk (s1,s2,s4,())):=by kernel_rfl
theorem zg0 (a1:List (BitVec 8)) (a2:List (BitVec 8)):uM a1 a2 =
 (V2).bind fun y1 =>
 bif !y1.1 then
 some (false,())
 else
 (zbS a1).bind fun y2 =>
 (XO y2.1).bind fun y3 =>
 (yH Xc (a2,y1.1,0,y3.1,())).bind fun st=>match st with
  | .again _=>none
  | .brk y4 =>
  bif !y4.2.1.Done then
   some (y4.1,())
  else
   (yH wq (y4.1,y4.2.1.P.Roots,0,y4.2.1,())).bind fun st=>match st with
    | .again _=>none
    | .brk y5 =>
    bif y5.1 then
    bif decide (y5.2.2.1.Work=0) then
     (znW y5.2.2.1.T).bind fun y6 =>
     bif decide (y6.1=0#64) then
     (Ut y5.2.2.1.H y5.2.1).bind fun y7 =>
     (zfY y7.1 y5.2.2.1.T.Marks).bind fun y8 =>
     bif y8.1 then
      (zlt y5.2.2.1.P).bind fun y9 =>
      (zfY y9.1 y5.2.2.1.T.Marks).bind fun y10 =>
      some (y10.1,())
     else
      some (false,())
     else
     some (false,())
    else
     some (false,())
    else
    some (false,())
    | .ret y5 =>
    some (y5.1,())
  | .ret y4 =>
  none:=zx (by kernel_rfl)
end Go.Pe.G
namespace Go.Pe.G
open Go.Pe
theorem zDc:Go.Proofs.Tryz.prog.funcs[75]? =some Go.Proofs.Tryz.f75:=by kernel_rfl
theorem zCt:Go.Proofs.Tryz.f75.body.isSome=true:=by kernel_rfl
theorem zCA:Xe Go.Proofs.Tryz.prog 75=true:=by kernel_rfl
theorem zCL:Go.Proofs.Tryz.prog.funcs[119]? =some Go.Proofs.Tryz.f119:=by kernel_rfl
theorem zBX:Go.Proofs.Tryz.f119.body.isSome=true:=by kernel_rfl
theorem zBv:Xe Go.Proofs.Tryz.prog 119=true:=by kernel_rfl
theorem zos (ys:List Int) (s1:Int) (s2:Int) (s3:BitVec 64):zaL ys (s1,s2,s3,()) =
 bif !(decide (s3=0#64)) then
 (qTZ s3).bind fun y1 =>
 (zcy ys s2 (w64 (y1.1+1))).bind fun _ =>
 some (.again (s1,s2+1,s3&&&(s3-1#64),()))
 else
 some (.brk (s1,s2,())):=by kernel_rfl
theorem zra (n:Int) (ys:List Int) (a1:BitVec 64):zsh (zbs ys) Go.Proofs.Tryz.f119 zlL n ((a1,()):(BitVec 64)×Unit) =
 (yH (zaL ys) (n,0,a1,())).bind fun st=>match st with
  | .again _=>none
  | .brk y1 =>
  some y1.2.1
  | .ret y1 =>
  some y1.2.1:=by kernel_rfl
theorem X1 (ys:List (List Int)) (s1:Int) (s2:Int) (s3:Int) (s4:List Int) (s5:Int):un ys (s1,s2,s3,s4,s5,()) =
 bif decide (s3<((s4.length:Int))) then
 (cut s4 s3 ((s4.length:Int))).bind fun l1 =>
 bif decide (s3=0)&&decide ((w64 (s3+(bif decide (((l1.length:Int))<s5) then ((l1.length:Int)) else s5)))=0)&&decide ((w64 (s3+(bif decide (((l1.length:Int))<s5) then ((l1.length:Int)) else s5)))=0) then
  (zcy ys s2 ([]:List Int)).bind fun _ =>
  some (.again (s1,s2+1,w64 (s3+s5),s4,s5,()))
 else
  bif decide (s3=0)&&decide ((w64 (s3+(bif decide (((l1.length:Int))<s5) then ((l1.length:Int)) else s5)))=((s4.length:Int)))&&decide ((w64 (s3+(bif decide (((l1.length:Int))<s5) then ((l1.length:Int)) else s5)))=((s4.length:Int))) then
  (zcy ys s2 s4).bind fun _ =>
  some (.again (s1,s2+1,w64 (s3+s5),s4,s5,()))
  else
  bif decide ((w64 (s3+(bif decide (((l1.length:Int))<s5) then ((l1.length:Int)) else s5)))=(w64 (s3+(bif decide (((l1.length:Int))<s5) then ((l1.length:Int)) else s5)))) then
   (cut s4 s3 (w64 (s3+(bif decide (((l1.length:Int))<s5) then ((l1.length:Int)) else s5)))).bind fun l2 =>
   (zcy ys s2 l2).bind fun _ =>
   some (.again (s1,s2+1,w64 (s3+s5),s4,s5,()))
  else
   none
 else
 some (.brk (s1,s2,())):=by kernel_rfl
theorem zeD (n:Int) (ys:List (List Int)) (a1:List Int) (a2:Int):zsh (uB ys) Go.Proofs.Tryz.f75 Ue n ((a1,a2,()):(List Int)×Int×Unit) =
 (yH (un ys) (n,0,0,a1,a2,())).bind fun st=>match st with
  | .again _=>none
  | .brk y1 =>
  some y1.2.1
  | .ret y1 =>
  some y1.2.1:=by kernel_rfl
end Go.Pe.G
namespace Go.Pe.G
open Go.Pe
theorem zo2 {A B D:Type} (g:A→Option (xr A B D)) {o:xr Unit B D}: ∀(k m:Nat) (x:A),wJ g k x=some o→k≤m→wJ g m x=some o
 | 0,m,x,h,_=>by cases h
 | k+1,0,x,h,hm=>by omega
 | k+1,m+1,x,h,hm=>by
  simp only [wJ,Option.bind_eq_some_iff] at h ⊢
  obtain ⟨s,h1,h2⟩:=h
  refine ⟨s,h1,?_⟩
  cases s with
  | again y=>exact zo2 g k m y h2 (by omega)
  | brk b=>exact h2
  | ret c=>exact h2
theorem zt2 {α:Type} (pre post:List α) (z:α):zcy (pre++z::post) (pre.length:Int) z=some ():=by
 unfold zcy
 rw [if_pos]
 refine ⟨by omega,?_⟩
 simp
theorem zhw (n:Int) (ys:List Int): ∀(f:Nat) (s:BitVec 64) (l pre:List Int),Ur f s=some l→ys=pre++l→wJ (zaL ys) f (n,(pre.length:Int),s,())=some (.brk (n,(ys.length:Int),()))
 | 0,s,l,pre,h,_=>by cases h
 | f+1,s,l,pre,h,e=>by
  simp only [Ur] at h
  simp only [wJ,zos]
  cases hz:decide (s=0#64) with
  | true =>
   simp only [hz,cond_true,Option.some.injEq] at h
   subst h
   simp only [List.append_nil] at e
   subst e
   rfl
  | false =>
   simp only [hz,cond_false,Option.map_eq_some_iff] at h
   obtain ⟨l',h1,rfl⟩:=h
   have hn:zcy ys (pre.length:Int) (w64 (tz s+1))=some ():=by rw [e];exact zt2 pre l' _
   simp only [Bool.not_false,cond_true,zCq,Option.bind_some,hn]
   have:=zhw n ys f (s&&&(s-1#64)) l' (pre++[w64 (tz s+1)]) h1 (by rw [e];simp)
   simpa using this
theorem zqX (G:Nat→Prop) (W0:World) (hG:zx8 G W0):Xn Go.Proofs.Tryz.prog G W0 119 zbc:=by
 obtain ⟨c,hc⟩:=Option.isSome_iff_exists.1 zBX
 refine zrV (Cg:=zbs []) rfl zvp (fun f s hs=>Oks.at (.cons _ _ _ _ zBj (zzB hG) (.skip _ _ .nil)) f s hs) rfl zyu (fun g it h=>by cases h) zBv zCL hc zbc (Nat.le_of_ble_eq_true (by kernel_rfl)) rfl ?_
 rintro n ⟨a,⟨⟩⟩ ys h
 have h:Ur 66 a=some ys:=h
 have e:=zra n ys a
 have k:=zo2 _ 66 YC _ (zhw n ys 66 a ys [] h rfl) (by decide)
 refine Eq.trans e ?_
 have k':wJ (zaL ys) YC (n,0,a,())=some (.brk (n,(ys.length:Int),())):=k
 rw [UP,k']
 rfl
theorem zzG {a:Int} (h: -9223372036854775808≤a) (h2:a<9223372036854775808):w64 a=a:=by
 rw [zpm]
 omega
theorem zdr (n:Int) (ys:List (List Int)) (l:List Int) (sz:Nat) (h1:1≤sz) (h2:sz<1000000) (h3:l.length<1000000): ∀(f p:Nat) (pre:List (List Int)),(l.drop p).length≤f→ys=pre++u9 sz f (l.drop p)→p<2000000 →
  wJ (un ys) (f+1) (n,(pre.length:Int),(p:Int),l,(sz:Int),())=some (.brk (n,(ys.length:Int),())):=by
 intro f
 induction f with
 | zero =>
  intro p pre hf e hp
  simp only [wJ,X1]
  simp only [List.length_drop] at hf
  have: ¬(p:Int)<(l.length:Int):=by omega
  simp only [this,decide_false,cond_false,Option.bind_some]
  simp only [u9,List.append_nil] at e
  rw [e]
 | succ f ih =>
  intro p pre hf e hp
  rw [wJ,X1]
  by_cases hlt:p<l.length
  ·have hlt':(p:Int)<(l.length:Int):=by omega
   have hcut:cut l (p:Int) (l.length:Int)=some (l.drop p):=by
    unfold cut
    have:(decide (0≤(p:Int))&&decide ((p:Int)≤(l.length:Int))&&decide ((l.length:Int)≤(l.length:Int)))=true:=by simp;omega
    simp only [this,cond_true]
    simp
   obtain ⟨x,r,hxr⟩: ∃x r,l.drop p=x::r:=by
    cases hd:l.drop p with
    | nil=>have:=congrArg List.length hd;simp at this;omega
    | cons x r=>exact ⟨x,r,rfl⟩
   have hch:u9 sz (f+1) (l.drop p)=(l.drop p).take sz::u9 sz f (l.drop (p+sz)):=by
    rw [hxr];simp only [u9];rw [←hxr,List.drop_drop]
   have hm: ∃m:Nat,(bif decide (((l.drop p).length:Int)<(sz:Int)) then (((l.drop p).length:Int)) else (sz:Int))=(m:Int)∧m=min sz (l.length-p):=by
    simp only [List.length_drop]
    by_cases hs:((l.length-p:Nat):Int)<(sz:Int)
    ·exact ⟨l.length-p,by simp only [hs,decide_true,cond_true],by omega⟩
    ·exact ⟨sz,by simp only [hs,decide_false,cond_false],by omega⟩
   obtain ⟨m,hm1,hm2⟩:=hm
   have hw:w64 ((p:Int)+(m:Int))=((p+m:Nat):Int):=by rw [zzG (by omega) (by omega)];omega
   have hw2:w64 ((p:Int)+(sz:Int))=((p+sz:Nat):Int):=by rw [zzG (by omega) (by omega)];omega
   have hne: ¬((p+m:Nat):Int)=0:=by omega
   simp only [hlt',decide_true,cond_true,hcut,Option.bind_some,hm1,hw,hw2,hne,decide_false,Bool.and_false,cond_false]
   have hn:zcy ys (pre.length:Int) ((l.drop p).take sz)=some ():=by rw [e,hch];exact zt2 pre _ _
   have hcut2:cut l (p:Int) ((p+m:Nat):Int)=some ((l.drop p).take sz):=by
    unfold cut
    have:(decide (0≤(p:Int))&&decide ((p:Int)≤((p+m:Nat):Int))&&decide (((p+m:Nat):Int)≤(l.length:Int)))=true:=by simp;omega
    simp only [this,cond_true]
    refine congrArg some ?_
    simp only [Int.toNat_natCast]
    rw [List.drop_take,Nat.add_sub_cancel_left,hm2]
    by_cases hs:sz≤l.length-p
    ·rw [Nat.min_eq_left hs]
    ·rw [Nat.min_eq_right (by omega),List.take_of_length_le (l:=l.drop p) (by simp),List.take_of_length_le (l:=l.drop p) (by simp;omega)]
   have hnext:=ih (p+sz) (pre++[(l.drop p).take sz]) (by simp only [List.length_drop] at hf ⊢;omega) (by rw [e,hch];simp) (by omega)
   have hlen:((pre++[(l.drop p).take sz]).length:Int)=(pre.length:Int)+1:=by simp
   rw [hlen] at hnext
   cases hfull:(decide ((p:Int)=0)&&decide (((p+m:Nat):Int)=(l.length:Int))&&decide (((p+m:Nat):Int)=(l.length:Int))) with
   | true =>
    simp only [cond_true]
    have hl:l=(l.drop p).take sz:= ?_
    ·rw [←hl] at hn
     rw [hn]
     exact hnext
    simp only [Bool.and_eq_true,decide_eq_true_eq] at hfull
    obtain ⟨⟨hp0,hpl⟩,_⟩:=hfull
    have hp00:p=0:=by omega
    rw [hp00,List.drop_zero,List.take_of_length_le (by omega)]
   | false =>
    simp only [cond_false,hcut2,Option.bind_some,decide_true,cond_true]
    rw [hn]
    exact hnext
  ·have hnl: ¬(p:Int)<(l.length:Int):=by omega
   have hd:l.drop p=[]:=List.drop_eq_nil_of_le (by omega)
   simp only [hnl,decide_false,cond_false,Option.bind_some]
   rw [hd] at e
   simp only [u9,List.append_nil] at e
   rw [e]
theorem zdJ (n:Int) (ys:List (List Int)) (l:List Int) (sz:Int) (h:ziS l sz=some ys):wJ (un ys) YC (n,0,0,l,sz,())=some (.brk (n,(ys.length:Int),())):=by
 unfold ziS at h
 cases hc:(decide (1≤sz)&&decide (sz<1000000)&&decide ((l.length:Int)<1000000)) with
 | false=>simp [hc] at h
 | true =>
  simp only [hc,cond_true] at h
  injection h with h
  simp only [Bool.and_eq_true,decide_eq_true_eq] at hc
  obtain ⟨⟨c1,c2⟩,c3⟩:=hc
  have k:=zo2 _ (l.length+1) YC _ (zdr n ys l sz.toNat (by omega) (by omega) (by omega) l.length 0 [] (by simp) (by simpa using h.symm) (by omega)) (by unfold YC;omega)
  have hs:((sz.toNat:Nat):Int)=sz:=by omega
  rw [hs] at k
  exact k
theorem zdT (G:Nat→Prop) (W0:World) (hG:zx8 G W0):Xn Go.Proofs.Tryz.prog G W0 75 vK:=by
 obtain ⟨c,hc⟩:=Option.isSome_iff_exists.1 zCt
 refine zrV (Cg:=uB []) rfl zvp (fun f s hs=>Oks.at .nil f s hs) rfl zyu (fun g it h=>by cases h) zCA zDc hc vK (Nat.le_of_ble_eq_true (by kernel_rfl)) rfl (fun n x ys h=> ?_)
 refine Eq.trans (zeD n ys x.1 x.2.1) ?_
 rw [UP,zdJ n ys x.1 x.2.1 h]
 rfl
end Go.Pe.G
namespace Go.Pe.G
open Go.Pe
theorem k2 {G:Nat→Prop} {W0:World} {f:Nat} {s:zy E} {ss r} (hs:UI Go.Proofs.Tryz.prog G W0 f s) (h:Oks Go.Proofs.Tryz.prog G W0 ((f,ss)::r)) (hc:Xe Go.Proofs.Tryz.prog f=true:=by kernel_rfl):Oks Go.Proofs.Tryz.prog G W0 ((f,s::ss)::r):= .cons _ _ _ _ hc hs h
theorem k1 {G:Nat→Prop} {W0:World} {f:Nat} {s:zy E} {r} (hs:UI Go.Proofs.Tryz.prog G W0 f s) (h:Oks Go.Proofs.Tryz.prog G W0 r) (hc:Xe Go.Proofs.Tryz.prog f=true:=by kernel_rfl):Oks Go.Proofs.Tryz.prog G W0 ((f,[s])::r):= .cons _ _ _ _ hc hs (.skip _ _ h)
abbrev Sd (G:Nat→Prop) (W0:World):=UI (E:=E) Go.Proofs.Tryz.prog G W0
theorem gs {G:Nat→Prop} {W0:World} {l:List (Nat×List (zy E))} {loops mv kept pk its} {f:FuncId} {fn:Func} {inn out:xQ} {gi go:List Grp} {hi:Zy E gi=inn.holes} {ho:Zy E go=out.holes} (h:Oks Go.Proofs.Tryz.prog G W0 l) (h2:Its Go.Proofs.Tryz.prog G W0 its) (hf:Go.Proofs.Tryz.prog.funcs[f]? =some fn:=by kernel_rfl) (hb:fn.body.isSome=true:=by kernel_rfl)
  (hk:(cf l loops mv kept pk its).kept=zhX inn.blks 0:=by kernel_rfl) (hn:Nat.ble inn.vals.length fn.ntmps=true:=by kernel_rfl):UI Go.Proofs.Tryz.prog G W0 f (sp (cf l loops mv kept pk its) fn inn out gi go hi ho):=zy2 (C:=cf l loops mv kept pk its) zvp (zyk h) rfl (zA7 h2) zyu hf hb hk hn
variable {G:Nat→Prop} {W0:World} (hG:zx8 G W0)
include hG
theorem zhu:Sd G W0 17 zf5:=gs .nil .nil
theorem zaD:Sd G W0 68 U8:=gs .nil .nil
theorem zj9:Sd G W0 66 zbT:=gs (k1 (zaD hG) .nil) .nil
theorem zln:Sd G W0 110 zcP:=gs .nil .nil
theorem Xm:Sd G W0 112 wK:=gs (k1 (zln hG) .nil) .nil
theorem YF:Sd G W0 70 wg:=gs (k1 (Xm hG) .nil) .nil
theorem zm2:Sd G W0 109 ze9:=gs (k1 (YF hG) .nil) .nil
theorem Xr:Sd G W0 150 wH:=gs (k1 (zm2 hG) .nil) .nil
theorem YE:Sd G W0 111 wh:=gs (k1 (Xr hG) .nil) .nil
theorem zgD:Sd G W0 67 zep:=gs (k1 (YE hG) .nil) .nil
theorem zhx:Sd G W0 69 zfJ:=gs .nil .nil
theorem zmS:Sd G W0 71 zeR:=gs (k1 (zaD hG) .nil) .nil
theorem XQ:Sd G W0 112 w8:=gs (k1 (zmS hG) .nil) .nil
theorem Y7:Sd G W0 70 wD:=gs (k1 (XQ hG) .nil) .nil
theorem znr:Sd G W0 152 zfB:=gs .nil .nil
theorem zn3:Sd G W0 115 zjk:=gs (k1 (znr hG) .nil) .nil
theorem znP:Sd G W0 114 zg7:=gs (k1 (zn3 hG) .nil) .nil
theorem Yj:Sd G W0 151 xN:=gs (k1 (znP hG) .nil) .nil
theorem Z2:Sd G W0 113 xx:=gs (k1 (Yj hG) .nil) .nil
theorem zpN:Sd G W0 72 zls:=gs (k1 (Z2 hG) .nil) .nil
theorem znY:Sd G W0 118 ziW:=gs .nil .nil
theorem zmP:Sd G W0 117 zeU:=gs (k1 (znY hG) .nil) .nil
theorem ZH:Sd G W0 153 xt:=gs (k1 (zmP hG) .nil) .nil
theorem Zj:Sd G W0 116 xk:=gs (k1 (ZH hG) .nil) .nil
theorem zok:Sd G W0 73 zi2:=gs (k1 (Zj hG) .nil) .nil
theorem zow:Sd G W0 23 zjr:=gs (k1 (zhu hG) (k1 (zj9 hG) (k1 (zgD hG) (k1 (zaD hG) (k1 (zhx hG) (k1 (Y7 hG) (k1 (zpN hG) (k1 (zok hG) .nil)))))))) .nil
theorem zkB:Sd G W0 79 zkn:=gs .nil .nil
theorem Ve:Sd G W0 40 zbh:=gs (k1 (zkB hG) .nil) .nil
theorem zlM:Sd G W0 15 znm:=gs (k1 (Ve hG) .nil) .nil
theorem zgF:Sd G W0 24 zdU:=gs (k1 (zlM hG) .nil) .nil
theorem zi1:Sd G W0 74 zba:=gs .nil .nil
theorem zpx:Sd G W0 25 zk9:=gs (k1 (zi1 hG) .nil) .nil
theorem znU:Sd G W0 26 ziU:=gs .nil .nil
theorem xH:Sd G W0 28 xC:=gs .nil .nil
theorem Wc:Sd G W0 27 ve:=gs (k1 (xH hG) .nil) .nil
theorem znN:Sd G W0 29 zgQ:=gs .nil .nil
theorem zaC:Sd G W0 30 U7:=gs .nil .nil
theorem zaA:Sd G W0 31 zak:=gs .nil .nil
theorem zpD:Sd G W0 32 zlh:=gs .nil .nil
theorem zeG:Sd G W0 33 WS:=gs .nil .nil
theorem zqb:Sd G W0 76 zmW:=gs .nil .nil
theorem zrl:Xn Go.Proofs.Tryz.prog G W0 119 zbc:=zqX G W0 hG
theorem zjP:Sd G W0 34 zhN:=gs (k1 (zqb hG) .nil) (.cons _ _ _ (zrl hG) (.nil))
theorem zbt:Sd G W0 43 Z6:=gs .nil .nil
theorem zqu:Sd G W0 154 znk:=gs .nil .nil
theorem zqT:Sd G W0 155 zmw:=gs .nil .nil
theorem zqh:Sd G W0 156 zm6:=gs .nil .nil
theorem zqP:Sd G W0 157 zmF:=gs .nil .nil
theorem XP:Sd G W0 121 za1:=gs (k1 (zbt hG) (k1 (zqu hG) (k1 (zqT hG) (k1 (zqh hG) (k1 (zqP hG) .nil))))) .nil
theorem zeL:Sd G W0 77 zcH:=gs (k1 (XP hG) .nil) .nil
theorem zgb:Sd G W0 78 zen:=gs .nil .nil
theorem zpu:Sd G W0 35 zla:=gs (k1 (zeL hG) (k1 (zgb hG) .nil)) .nil
theorem YD:Sd G W0 36 X3:=gs .nil .nil
theorem Yg:Sd G W0 38 Xa:=gs (k1 (YD hG) .nil) .nil
theorem YP:Sd G W0 37 XW:=gs (k1 (Yg hG) .nil) .nil
theorem zeA:Xn Go.Proofs.Tryz.prog G W0 75 vK:=zdT G W0 hG
theorem zhy:Sd G W0 8 zfU:=gs (k1 (zow hG) (k1 (zgF hG) (k1 (zpx hG) (k1 (znU hG) (k1 (Wc hG) (k1 (xH hG) (k1 (znN hG) (k1 (zaC hG) (k1 (zaA hG) (k1 (zpD hG) (k1 (zeG hG) (k1 (zjP hG) (k1 (zpu hG) (k1 (YD hG) (k1 (YP hG) (k1 (Yg hG) .nil)))))))))))))))) (.cons _ _ _ (zeA hG) (.nil))
theorem uo:Sd G W0 54 vu:=gs .nil .nil
theorem yR:Sd G W0 53 z8:=gs (k1 (uo hG) .nil) .nil
theorem zhA:Sd G W0 51 zf1:=gs (k1 (yR hG) .nil) .nil
theorem zhG:Sd G W0 82 zaJ:=gs .nil .nil
theorem zaZ:Sd G W0 84 ZA:=gs .nil .nil
theorem wn:Sd G W0 83 yn:=gs (k1 (zaZ hG) .nil) .nil
theorem Uu:Sd G W0 85 uD:=gs .nil .nil
theorem zpI:Sd G W0 50 zk7:=gs (k1 (zhA hG) (k1 (yR hG) (k1 (zhG hG) (k1 (wn hG) (k1 (Uu hG) .nil))))) .nil
theorem zbI:Sd G W0 86 Z8:=gs .nil .nil
theorem zqq:Sd G W0 52 zm9:=gs (k1 (zbI hG) .nil) .nil
theorem zcf:Sd G W0 87 YI:=gs .nil .nil
theorem znF:Sd G W0 55 zg4:=gs (k1 (zcf hG) .nil) .nil
theorem zhI:Sd G W0 57 zaE:=gs (k1 (uo hG) .nil) .nil
theorem xY:Sd G W0 56 yg:=gs (k1 (zhI hG) .nil) .nil
theorem ze7:Sd G W0 88 Vk:=gs .nil .nil
theorem zhk:Sd G W0 59 UZ:=gs (k1 (uo hG) (k1 (ze7 hG) .nil)) .nil
theorem xB:Sd G W0 58 z7:=gs (k1 (zhk hG) .nil) .nil
theorem zoB:Sd G W0 13 zjl:=gs (k1 (zpI hG) (k1 (zhA hG) (k1 (zqq hG) (k1 (yR hG) (k1 (uo hG) (k1 (znF hG) (k1 (xY hG) (k1 (xB hG) .nil)))))))) .nil
theorem ziD:Sd G W0 20 za6:=gs .nil .nil
theorem zka:Sd G W0 49 zb3:=gs .nil .nil
theorem zeJ:Sd G W0 12 zcA:=gs (k1 (zka hG) .nil) .nil
theorem ziP:Sd G W0 21 zbb:=gs (k1 (zeJ hG) .nil) .nil
theorem vT:Sd G W0 132 ur:=gs .nil .nil
theorem uY:Sd G W0 137 ug:=gs .nil .nil
theorem Y6:Sd G W0 133 ZP:=gs (k1 (xH hG) (k1 (uY hG) .nil)) .nil
theorem zfr:Sd G W0 90 Vn:=gs (k1 (vT hG) (k1 (Y6 hG) .nil)) .nil
theorem zbd:Sd G W0 134 za8:=gs .nil .nil
theorem zfq:Sd G W0 91 VJ:=gs (k1 (zbd hG) .nil) .nil
theorem zg6:Sd G W0 92 UE:=gs (k1 (xH hG) .nil) .nil
theorem zdp:Sd G W0 162 XB:=gs .nil .nil
theorem zea:Sd G W0 89 zgH:=gs (k1 (zkB hG) .nil) .nil
theorem zgA:Sd G W0 177 zei:=gs (k1 (Ve hG) (k1 (zea hG) .nil)) .nil
theorem Wx:Sd G W0 180 W1:=gs .nil .nil
theorem uR:Sd G W0 186 um:=gs (k1 (YP hG) (k1 (Yg hG) (k1 (Wx hG) .nil))) .nil
theorem ze1:Sd G W0 163 VK:=gs (k1 (zaC hG) (k1 (zaA hG) (k1 (zgA hG) (k1 (uR hG) .nil)))) .nil
theorem zfj:Sd G W0 164 VF:=gs .nil .nil
theorem zmQ:Sd G W0 185 zfa:=gs .nil .nil
theorem zni:Sd G W0 185 zfv:=gs .nil .nil
theorem zm0:Sd G W0 185 zfh:=gs .nil .nil
theorem zne:Sd G W0 185 zeS:=gs .nil .nil
theorem uw:Sd G W0 203 ZN:=gs (k1 (XP hG) .nil) .nil
theorem wa:Sd G W0 204 xU:=gs .nil .nil
theorem zbV:Sd G W0 189 Yq:=gs (k1 (uw hG) (k1 (wa hG) .nil)) .nil
theorem Zx:Sd G W0 205 u7:=gs .nil .nil
theorem zae:Sd G W0 206 XH:=gs .nil .nil
theorem x8:Sd G W0 207 xW:=gs .nil .nil
theorem zeu:Sd G W0 190 WO:=gs (k1 (uw hG) (k1 (Zx hG) (k1 (zae hG) (k1 (x8 hG) .nil)))) .nil
theorem Yi:Sd G W0 208 Xd:=gs (k1 (XP hG) .nil) .nil
theorem YG:Sd G W0 209 Zl:=gs (k1 (zae hG) .nil) .nil
theorem zie:Sd G W0 191 zax:=gs (k1 (Yi hG) (k1 (YG hG) .nil)) .nil
theorem zcL:Sd G W0 192 Xf:=gs (k1 (wa hG) (k1 (x8 hG) (k1 (Yi hG) .nil))) .nil
theorem zgM:Sd G W0 193 VZ:=gs (k1 (wa hG) (k1 (Yi hG) .nil)) .nil
theorem zeH:Sd G W0 210 zcE:=gs .nil .nil
theorem zdx:Sd G W0 194 XA:=gs (k1 (uw hG) (k1 (Zx hG) (k1 (zeH hG) .nil))) .nil
theorem zfz:Sd G W0 195 VB:=gs (k1 (uw hG) (k1 (x8 hG) (k1 (YG hG) .nil))) .nil
theorem zaa:Sd G W0 211 Xs:=gs (k1 (XP hG) (k1 (Zx hG) .nil)) .nil
theorem zew:Sd G W0 196 WY:=gs (k1 (zaa hG) .nil) .nil
theorem zeE:Sd G W0 197 WJ:=gs (k1 (wa hG) (k1 (x8 hG) (k1 (Yi hG) .nil))) .nil
theorem zfl:Sd G W0 198 VC:=gs (k1 (wa hG) (k1 (x8 hG) (k1 (Yi hG) .nil))) .nil
theorem zeT:Sd G W0 199 Vr:=gs (k1 (uw hG) (k1 (Zx hG) .nil)) .nil
theorem zeX:Sd G W0 200 VG:=gs (k1 (uw hG) (k1 (wa hG) (k1 (zeH hG) .nil))) .nil
theorem zez:Sd G W0 201 WM:=gs (k1 (uw hG) (k1 (YG hG) .nil)) .nil
theorem zdu:Sd G W0 202 XL:=gs (k1 (x8 hG) (k1 (zaa hG) .nil)) .nil
theorem zgg:Sd G W0 158 zee:=gs (k2 (zmQ hG) (k2 (zni hG) (k2 (zm0 hG) (k2 (zne hG) (.skip _ _ (k1 (zbV hG) (k1 (zeu hG) (k1 (zie hG) (k1 (zcL hG) (k1 (zgM hG) (k1 (zdx hG) (k1 (zfz hG) (k1 (zew hG) (k1 (zeE hG) (k1 (zfl hG) (k1 (zeT hG) (k1 (zeX hG) (k1 (zez hG) (k1 (zdu hG) .nil))))))))))))))))))) .nil
theorem ze4:Sd G W0 165 Vu:=gs (k1 (zgg hG) (k1 (uR hG) .nil)) .nil
theorem zfy:Sd G W0 166 VI:=gs (k1 (uR hG) .nil) .nil
theorem zgn:Sd G W0 187 zer:=gs (k1 (XP hG) .nil) .nil
theorem Vh:Sd G W0 188 V1:=gs .nil .nil
theorem ze5:Sd G W0 181 VD:=gs (k1 (zgn hG) (k1 (Vh hG) .nil)) .nil
theorem zhn:Sd G W0 182 UG:=gs (k1 (zeL hG) (k1 (Vh hG) .nil)) .nil
theorem zeF:Sd G W0 183 WZ:=gs (k1 (zgb hG) (k1 (XP hG) (k1 (Vh hG) .nil))) .nil
theorem zdv:Sd G W0 184 Xv:=gs (k1 (zgn hG) (k1 (Vh hG) .nil)) .nil
theorem YN:Sd G W0 146 X7:=gs (k1 (ze5 hG) (k1 (zhn hG) (k1 (zeF hG) (k1 (zdv hG) .nil)))) .nil
theorem zft:Sd G W0 167 Vv:=gs (k1 (YN hG) (k1 (uR hG) .nil)) .nil
theorem vR:Sd G W0 147 wQ:=gs .nil .nil
theorem ze0:Sd G W0 168 Vz:=gs (k1 (YD hG) (k1 (YP hG) (k1 (vR hG) (k1 (Wx hG) .nil)))) .nil
theorem zds:Sd G W0 169 XC:=gs (k1 (YN hG) .nil) .nil
theorem zhv:Sd G W0 127 zfM:=gs (k1 (zdp hG) (k1 (ze1 hG) (k1 (zfj hG) (k1 (ze4 hG) (k1 (zfy hG) (k1 (zft hG) (k1 (ze0 hG) (k1 (zds hG) .nil)))))))) .nil
theorem VM:Sd G W0 135 Yc:=gs (k1 (zhv hG) .nil) .nil
theorem ze2:Sd G W0 93 VL:=gs (k1 (VM hG) .nil) .nil
theorem zbP:Sd G W0 173 VR:=gs .nil .nil
theorem zcU:Sd G W0 148 zef:=gs (k1 (zbP hG) .nil) .nil
theorem za2:Sd G W0 136 Vc:=gs (k1 (vT hG) (k1 (zcU hG) .nil)) .nil
theorem zgw:Sd G W0 94 Uk:=gs (k1 (vT hG) (k1 (Y6 hG) (k1 (za2 hG) .nil))) .nil
theorem zho:Sd G W0 95 UF:=gs (k1 (vT hG) (k1 (za2 hG) (k1 (uY hG) .nil))) .nil
theorem zkV:Sd G W0 138 zkH:=gs (k1 (zea hG) .nil) .nil
theorem zeO:Sd G W0 96 Vl:=gs (k1 (zkV hG) .nil) .nil
theorem zdw:Sd G W0 97 Xu:=gs (k1 (xH hG) .nil) .nil
theorem zqA:Sd G W0 139 zm5:=gs (k1 (xH hG) (k1 (vR hG) (k1 (zbP hG) .nil))) .nil
theorem zeN:Sd G W0 98 Vp:=gs (k1 (vT hG) (k1 (uY hG) (k1 (zqA hG) .nil))) .nil
theorem zlB:Sd G W0 175 zcM:=gs .nil .nil
theorem WU:Sd G W0 171 vE:=gs (k1 (zlB hG) .nil) .nil
theorem YH:Sd G W0 170 Zu:=gs .nil .nil
theorem Un:Sd G W0 179 Yw:=gs (k1 (YH hG) .nil) .nil
theorem zgJ:Sd G W0 174 zdF:=gs (k1 (Un hG) .nil) .nil
theorem zmv:Sd G W0 140 zfw:=gs (k1 (WU hG) (k1 (zgJ hG) .nil)) .nil
theorem zdD:Sd G W0 176 Wr:=gs .nil .nil
theorem zol:Sd G W0 141 zjN:=gs (k1 (zgD hG) (k1 (zdD hG) .nil)) .nil
theorem zbW:Sd G W0 130 zcx:=gs (k1 (Ve hG) (k1 (zkV hG) .nil)) .nil
theorem zoz:Sd G W0 142 zjc:=gs (k1 (zbW hG) (k1 (zgA hG) .nil)) .nil
theorem zfg:Sd G W0 99 Vx:=gs (k1 (vT hG) (k1 (Y6 hG) (k1 (uY hG) (k1 (zmv hG) (k1 (zol hG) (k1 (zoz hG) .nil)))))) .nil
theorem zlQ:Sd G W0 178 zdZ:=gs .nil .nil
theorem Vg:Sd G W0 171 vP:=gs (k1 (zlQ hG) .nil) .nil
theorem znL:Sd G W0 143 zhq:=gs (k1 (YH hG) (k1 (Vg hG) .nil)) .nil
theorem zmD:Sd G W0 144 zfF:=gs (k1 (zgJ hG) (k1 (Un hG) .nil)) .nil
theorem Uy:Sd G W0 145 Y1:=gs (k1 (YP hG) (k1 (Wx hG) .nil)) .nil
theorem zgi:Sd G W0 100 Ud:=gs (k1 (YD hG) (k1 (znL hG) (k1 (zmD hG) (k1 (Uy hG) .nil)))) .nil
theorem zhr:Sd G W0 101 UY:=gs (k1 (YN hG) .nil) .nil
theorem zfs:Sd G W0 102 Vy:=gs (k1 (Yg hG) (k1 (Uy hG) (k1 (vR hG) .nil))) .nil
theorem zgh:Sd G W0 103 V0:=gs (k1 (YN hG) .nil) .nil
theorem ze6:Sd G W0 104 VH:=gs .nil .nil
theorem zce:Sd G W0 149 UL:=gs .nil .nil
theorem zgP:Sd G W0 105 V4:=gs (k1 (zbd hG) (k1 (zcU hG) (k1 (zce hG) .nil))) .nil
theorem zhj:Sd G W0 106 UT:=gs (k1 (VM hG) (k1 (zce hG) .nil)) .nil
theorem zmh:Sd G W0 172 zdS:=gs .nil .nil
theorem W8:Sd G W0 171 vO:=gs (k1 (zmh hG) .nil) .nil
theorem zeI:Sd G W0 131 zcJ:=gs (k1 (YH hG) (k1 (W8 hG) .nil)) .nil
theorem zed:Sd G W0 107 XX:=gs (k1 (zbW hG) (k1 (zeI hG) .nil)) .nil
theorem zeo:Sd G W0 108 We:=gs .nil .nil
theorem zgO:Sd G W0 64 Uh:=gs (k1 (zfr hG) (k1 (zfq hG) (k1 (zg6 hG) (k1 (ze2 hG) (k1 (zgw hG) (k1 (zho hG) (k1 (zeO hG) (k1 (zdw hG) (k1 (zeN hG) (k1 (zfg hG) (k1 (zgi hG) (k1 (zhr hG) (k1 (zfs hG) (k1 (zgh hG) (k1 (ze6 hG) (k1 (zgP hG) (k1 (zhj hG) (k1 (zed hG) (k1 (zeo hG) .nil))))))))))))))))))) .nil
theorem XS:Sd G W0 65 wX:=gs .nil .nil
theorem zes:Sd G W0 22 zbB:=gs (k1 (zgO hG) (k1 (XS hG) .nil)) .nil
theorem zgk:Sd G W0 7 V3:=gs (k1 (zhy hG) (k1 (zoB hG) (k1 (ziD hG) (k1 (ziP hG) (k1 (zes hG) .nil))))) .nil
theorem X9:Sd G W0 39 Ze:=gs .nil .nil
theorem zd0:Sd G W0 41 Wu:=gs (k1 (X9 hG) .nil) .nil
theorem zkk:Sd G W0 9 zb2:=gs (k1 (X9 hG) (k1 (Ve hG) (k1 (zd0 hG) .nil))) .nil
theorem zhb:Sd G W0 122 U3:=gs (k1 (YN hG) .nil) .nil
theorem zai:Sd G W0 129 XG:=gs .nil .nil
theorem zde:Sd G W0 160 zaU:=gs (k1 (zaC hG) (k1 (zaA hG) .nil)) .nil
theorem zbO:Sd G W0 161 VS:=gs (k1 (YP hG) (k1 (Wx hG) .nil)) .nil
theorem zhf:Sd G W0 159 UW:=gs (k1 (YD hG) (k1 (zde hG) (k1 (zbO hG) .nil))) .nil
theorem zib:Sd G W0 123 zaI:=gs (k1 (zai hG) (k1 (zgg hG) (k1 (zhf hG) .nil))) .nil
theorem zgr:Sd G W0 124 Ug:=gs (k1 (zde hG) .nil) .nil
theorem zg5:Sd G W0 125 UM:=gs (k1 (Yg hG) (k1 (vR hG) (k1 (zbO hG) .nil))) .nil
theorem zdm:Sd G W0 128 zaX:=gs .nil .nil
theorem zhh:Sd G W0 126 UN:=gs (k1 (zdm hG) (k1 (zbd hG) (k1 (zcU hG) .nil))) .nil
theorem zhd:Sd G W0 80 UR:=gs (k1 (zhb hG) (k1 (zib hG) (k1 (zgr hG) (k1 (zg5 hG) (k1 (zhh hG) (k1 (zhv hG) (k1 (zdm hG) (k1 (zai hG) (k1 (zbW hG) (k1 (zeI hG) .nil)))))))))) .nil
theorem WE:Sd G W0 81 vm:=gs .nil .nil
theorem znI:Sd G W0 42 zhg:=gs (k1 (zhd hG) (k1 (WE hG) .nil)) .nil
theorem zj0:Sd G W0 10 zbU:=gs (k1 (zeJ hG) (k1 (zes hG) (k1 (znI hG) .nil))) .nil
theorem zoG:Sd G W0 16 ziI:=gs .nil .nil
theorem zkY:Sd G W0 61 zcX:=gs (k1 (Ve hG) .nil) .nil
theorem zmC:Sd G W0 63 zeV:=gs .nil .nil
theorem zb1:Sd G W0 62 Yl:=gs (k1 (zjP hG) (k1 (zmC hG) (k1 (zhx hG) (k1 (zea hG) .nil)))) .nil
theorem zgp:Sd G W0 18 zeh:=gs (k1 (zkY hG) (k1 (zb1 hG) .nil)) .nil
theorem zpB:Sd G W0 19 zlA:=gs (k1 (zgp hG) (k1 (zgF hG) .nil)) .nil
theorem zeC:Sd G W0 6 WK:=gs (k1 (zgk hG) (k1 (zhy hG) (k1 (zkk hG) (k1 (zj0 hG) (k1 (zlM hG) (k1 (zoG hG) (k1 (zhu hG) (k1 (zgp hG) (k1 (zpB hG) .nil))))))))) .nil
end Go.Pe.G
