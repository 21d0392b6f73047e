/- Own work of this seat: G2i, GH, GW, GX, G3. -/
import Derived.Test.YtcajmfphncfieaaGreatDoorTLGa
import Derived.Tactics
import Derived.Tactics2
import Derived.Shelf.SlicesE.DeleteFunc
import Derived.Shelf.Spec.SlicesGrow
set_option linter.unusedVariables false
set_option linter.unusedSectionVars false
set_option linter.unusedSimpArgs false
set_option linter.unnecessarySimpa false
set_option linter.deprecated false
set_option maxRecDepth 100000
open Array renaming getElem?_eq_some_iff → zK5, getElem?_push → zMe, toArray_toList → zMl
open Bool renaming and_eq_true → zKF
open Int renaming toNat_natCast → zLn
open List renaming getElem?_eq_getElem → zKG, getD_eq_getElem?_getD → zKH, append_nil → zKI, append_assoc → zKM, nil_append → zKP, length_filter_le → zLS, length_drop → zLW, drop_eq_nil_of_le → zMf, take_of_length_le → zMs, getElem_append_left → zMx
open Nat renaming le_refl → zKJ, lt_of_lt_of_le → zK0, le_of_ble_eq_true → zLj, add_zero → zLp, mul_one → zLz, zero_le → zLI, le_trans → zLM
open Option renaming bind_some → zKE, bind_eq_some_iff → zKQ, map_eq_some_iff → zKU, map_some → zLH, isSome_iff_exists → zMv
namespace Go.Pe.G
open Go.Pe Go.Proofs
theorem zKo:Tryz.prog.funcs[77]? =some Tryz.f77:=by kernel_rfl
theorem zJx:Tryz.f77.body.isSome=true:=by kernel_rfl
theorem zI9:Zf Tryz.prog 77=true:=by kernel_rfl
theorem zJU:Tryz.prog.funcs[115]? =some Tryz.f115:=by kernel_rfl
theorem zIt:Tryz.f115.body.isSome=true:=by kernel_rfl
theorem zIE:Zf Tryz.prog 115=true:=by kernel_rfl
theorem zJY:Tryz.prog.funcs[150]? =some Tryz.f150:=by kernel_rfl
theorem zIn:Tryz.f150.body.isSome=true:=by kernel_rfl
theorem zIK:Zf Tryz.prog 150=true:=by kernel_rfl
theorem zse (ys:List Int) (s1:Int) (s2:Int) (s3:BitVec 64):zbU ys (s1,s2,s3,()) =
 bif !(decide (s3=0#64)) then
 (qTZ s3).bind fun y1 =>
 (Xo ys s2 (w64 (y1.1+1))).bind fun _ =>
 some (.again (s1,s2+1,s3&&&(s3-1#64),()))
 else
 some (.brk (s1,s2,())):=by kernel_rfl
theorem zvA (n:Int) (ys:List Int) (a1:BitVec 64):zpq (zcI ys) Tryz.f115 zpm n ((a1,()):(BitVec 64)×Unit) =
 (yc (zbU ys) (n,0,a1,())).bind fun st=>match st with
  | .again _=>none
  | .brk y1 =>
  some y1.2.1
  | .ret y1 =>
  some y1.2.1:=by kernel_rfl
theorem W1 (ys:List (List Int)) (s1:Int) (s2:Int) (s3:Int) (s4:List Int) (s5:Int):uX ys (s1,s2,s3,s4,s5,()) =
 bif decide (s3<((s4.length:Int))) then
 (cut s4 s3 ((s4.length:Int))).bind fun l1 =>
 bif decide (s3=0)&&decide ((w64 (s3+(bif decide (((l1.length:Int))<s5) then ((l1.length:Int)) else s5)))=0)&&decide ((w64 (s3+(bif decide (((l1.length:Int))<s5) then ((l1.length:Int)) else s5)))=0) then
  (Xo ys s2 ([]:List Int)).bind fun _ =>
  some (.again (s1,s2+1,w64 (s3+s5),s4,s5,()))
 else
  bif decide (s3=0)&&decide ((w64 (s3+(bif decide (((l1.length:Int))<s5) then ((l1.length:Int)) else s5)))=((s4.length:Int)))&&decide ((w64 (s3+(bif decide (((l1.length:Int))<s5) then ((l1.length:Int)) else s5)))=((s4.length:Int))) then
  (Xo ys s2 s4).bind fun _ =>
  some (.again (s1,s2+1,w64 (s3+s5),s4,s5,()))
  else
  bif decide ((w64 (s3+(bif decide (((l1.length:Int))<s5) then ((l1.length:Int)) else s5)))=(w64 (s3+(bif decide (((l1.length:Int))<s5) then ((l1.length:Int)) else s5)))) then
   (cut s4 s3 (w64 (s3+(bif decide (((l1.length:Int))<s5) then ((l1.length:Int)) else s5)))).bind fun l2 =>
   (Xo ys s2 l2).bind fun _ =>
   some (.again (s1,s2+1,w64 (s3+s5),s4,s5,()))
  else
   none
 else
 some (.brk (s1,s2,())):=by kernel_rfl
theorem zgE (n:Int) (ys:List (List Int)) (a1:List Int) (a2:Int):zpq (Zm ys) Tryz.f77 zah n ((a1,a2,()):(List Int)×Int×Unit) =
 (yc (uX ys) (n,0,0,a1,a2,())).bind fun st=>match st with
  | .again _=>none
  | .brk y1 =>
  some y1.2.1
  | .ret y1 =>
  some y1.2.1:=by kernel_rfl
theorem zjb (ys:List (List Int)) (s1:Int) (s2:Int) (s3:Int) (s4:Int) (s5:za):Ue ys (s1,s2,s3,s4,s5,()) =
 bif decide (s4<s3) then
 (zec s5 (w64 (s4+1))).bind fun y1 =>
 (Xo ys s2 y1.1).bind fun _ =>
 some (.again (s1,s2+1,s3,w64 (s4+1),s5,()))
 else
 some (.brk (s1,s2,s5,())):=by kernel_rfl
theorem ziW (ys:List (List Int)) (s1:Int) (s2:Int) (s3:Int) (s4:Int) (s5:za):zbX ys (s1,s2,s3,s4,s5,()) =
 bif decide (s4<s3) then
 (zcV s5 (w64 (s4+1))).bind fun y1 =>
 (Xo ys s2 y1.1).bind fun _ =>
 some (.again (s1,s2+1,s3,w64 (s4+1),s5,()))
 else
 some (.brk (s1,s2,())):=by kernel_rfl
theorem zvq (n:Int) (ys:List (List Int)) (a1:Int) (a2:Int) (a3:Int) (a4:Int) (a5:Int) (a6:Int) (a7:Int) (a8:Int) (a9:Int) (a10:List (List Int)) (a11:BitVec 64) (a12:List (List Int)) (a13:List (List zE)) (a14:List zk) (a15:Int) (a16:List (List Int)) (a17:List (BitVec 64)) (a18:List (List Int)) (a19:BitVec 64) (a20:BitVec 64) (a21:Int) (a22:Int) (a23:Bool) (a24:Bool) (a25:Int) (a26:List Int) (a27:Int) (a28:Int) (a29:Int) (a30:List Int) (a31:List zj) (a32:List ze) (a33:Int) (a34:Int):zpq (Xb ys) Tryz.f150 zc6 n ((a1,a2,a3,a4,a5,a6,a7,a8,a9,a10,a11,a12,a13,a14,a15,a16,a17,a18,a19,a20,a21,a22,a23,a24,a25,a26,a27,a28,a29,a30,a31,a32,a33,a34,()):Int×Int×Int×Int×Int×Int×Int×Int×Int×(List (List Int))×(BitVec 64)×(List (List Int))×(List (List zE))×(List zk)×Int×(List (List Int))×(List (BitVec 64))×(List (List Int))×(BitVec 64)×(BitVec 64)×Int×Int×Bool×Bool×Int×(List Int)×Int×Int×Int×(List Int)×(List zj)×(List ze)×Int×Int×Unit) =
 (zch (za.mk (zd.mk a1 a2 a3 a4 a5 a6 a7 a8 (zr.mk a9 a10) a11 a12 a13 a14) (zr.mk a15 a16) a17 a18 (zn.mk a19 a20) a21 a22 a23 a24 a25 a26 (zx.mk a27 a28 a29 a30) a31 a32 (zN.mk a33 a34))).bind fun y1 =>
 (Xo ys 0 y1.1).bind fun _ =>
 (yc (Ue ys) (n,0+1,(a31.length:Int),0,za.mk (zd.mk a1 a2 a3 a4 a5 a6 a7 a8 (zr.mk a9 a10) a11 a12 a13 a14) (zr.mk a15 a16) a17 a18 (zn.mk a19 a20) a21 a22 a23 a24 a25 a26 (zx.mk a27 a28 a29 a30) a31 a32 (zN.mk a33 a34),())).bind fun st=>match st with
  | .again _=>none
  | .brk y2 =>
  (yc (zbX ys) (y2.1,y2.2.1,(y2.2.2.1.Ms.length:Int),0,y2.2.2.1,())).bind fun st=>match st with
   | .again _=>none
   | .brk y3 =>
   some y3.2.1
   | .ret y3 =>
   some y3.2.1
  | .ret y2 =>
  some y2.2.1:=by kernel_rfl
end Go.Pe.G
namespace Go.Pe.G
open Go.Pe Go.Proofs
theorem ziQ {A B D:Type}(g:A->Option (yM A B D)) {o:yM Unit B D}:∀(k m:Nat) (x:A),yY g k x=some o->k<=m->yY g m x=some o
 | 0,m,x,h,_=>by cases h
 | k+1,0,x,h,hm=>by omega
 | k+1,m+1,x,h,hm=>by
  simp only [yY,zKQ] at h ⊢;obtain ⟨s,h1,h2⟩:=h;refine ⟨s,h1,?_⟩;cases s with
  | again y=>exact ziQ g k m y h2 (by omega)
  | brk b=>exact h2
  | ret c=>exact h2
theorem ziz {α:Type}(pre post:List α) (z:α):Xo (pre++z::post) (pre.length:Int) z=some ():=by
 unfold Xo;rw [zb];refine ⟨by omega,?_⟩;simp
theorem zkr (n:Int) (ys:List Int):∀(f:Nat) (s:BitVec 64) (l pre:List Int),zal f s=some l->ys=pre++l->yY (zbU ys) f (n,(pre.length:Int),s,())=some (.brk (n,(ys.length:Int),()))
 | 0,s,l,pre,h,_=>by cases h
 | f+1,s,l,pre,h,e=>by
  simp only [zal] at h;simp only [yY,zse];cases hz:decide (s=0#64) with
  | true =>
   simp only [hz,zA,Option.some.injEq] at h;subst h;simp only [zKI] at e;subst e;rfl
  | false =>
   simp only [hz,zM,zKU] at h;obtain ⟨l',h1,rfl⟩:=h;have hn:Xo ys (pre.length:Int) (w64 (tz s+1))=some ():=by rw [e];exact ziz pre l' _
   simp only [Bool.not_false,zA,zJa,zKE,hn];have:=zkr n ys f (s&&&(s-1#64)) l' (pre++[w64 (tz s+1)]) h1 (by rw [e];simp);simpa using this
theorem zue (G:Nat->Prop) (W0:World) (hG:zoA G W0):Xx Tryz.prog G W0 115 zcn:=by
 obtain ⟨c,hc⟩:=zMv.1 zIt;refine zp9 (Cg:=zcI []) rfl zrR (fun f s hs=>Oks.at (.cons _ _ _ _ zI4 (zE8 hG) (.skip _ _ .nil)) f s hs) rfl zwy (fun g it h=>by cases h) zIE zJU hc zcn (zLj (by kernel_rfl)) rfl ?_;rintro n ⟨a,⟨⟩⟩ ys h;have h:zal 66 a=some ys:=h;have e:=zvA n ys a;have k:=ziQ _ 66 vW _ (zkr n ys 66 a ys [] h rfl) (by decide);refine Eq.trans e ?_;have k':yY (zbU ys) vW (n,0,a,())=some (.brk (n,(ys.length:Int),())):=k;rw [Xe,k'];rfl
theorem zwL {a:Int}(h: -9223372036854775808<=a) (h2:a<9223372036854775808):w64 a=a:=by
 rw [zs9];omega
theorem ze7 (n:Int) (ys:List (List Int)) (l:List Int) (sz:Nat) (h1:1<=sz) (h2:sz<1000000) (h3:l.length<1000000):∀(f p:Nat) (pre:List (List Int)),(l.drop p).length<=f->ys=pre++um sz f (l.drop p)->p<2000000 ->
  yY (uX ys) (f+1) (n,(pre.length:Int),(p:Int),l,(sz:Int),())=some (.brk (n,(ys.length:Int),())):=by
 intro f
 induction f with
 | zero =>
  intro p pre hf e hp;simp only [yY,W1];simp only [zLW] at hf;have: ¬(p:Int)<(l.length:Int):=by omega
  simp only [this,decide_false,zM,zKE];simp only [um,zKI] at e;rw [e]
 | succ f ih =>
  intro p pre hf e hp;rw [yY,W1];by_cases hlt:p<l.length
  .have hlt':(p:Int)<(l.length:Int):=by omega
   have hcut:cut l (p:Int) (l.length:Int)=some (l.drop p):=by
    unfold cut;have:(decide (0<=(p:Int))&&decide ((p:Int)<=(l.length:Int))&&decide ((l.length:Int)<=(l.length:Int)))=true:=by simp;omega
    simp only [this,zA];simp
   obtain ⟨x,r,hxr⟩:∃x r,l.drop p=x::r:=by
    cases hd:l.drop p with
    | nil=>have:=congrArg List.length hd;simp at this;omega
    | cons x r=>exact ⟨x,r,rfl⟩
   have hch:um sz (f+1) (l.drop p)=(l.drop p).take sz::um sz f (l.drop (p+sz)):=by
    rw [hxr];simp only [um];rw [<-hxr,List.drop_drop]
   have hm:∃m:Nat,(bif decide (((l.drop p).length:Int)<(sz:Int)) then (((l.drop p).length:Int)) else (sz:Int))=(m:Int)/\m=min sz (l.length-p):=by
    simp only [zLW];by_cases hs:((l.length-p:Nat):Int)<(sz:Int)
    .exact ⟨l.length-p,by simp only [hs,decide_true,zA],by omega⟩
    .exact ⟨sz,by simp only [hs,decide_false,zM],by omega⟩
   obtain ⟨m,hm1,hm2⟩:=hm;have hw:w64 ((p:Int)+(m:Int))=((p+m:Nat):Int):=by rw [zwL (by omega) (by omega)];omega
   have hw2:w64 ((p:Int)+(sz:Int))=((p+sz:Nat):Int):=by rw [zwL (by omega) (by omega)];omega
   have hne: ¬((p+m:Nat):Int)=0:=by omega
   simp only [hlt',decide_true,zA,hcut,zKE,hm1,hw,hw2,hne,decide_false,Bool.and_false,zM];have hn:Xo ys (pre.length:Int) ((l.drop p).take sz)=some ():=by rw [e,hch];exact ziz pre _ _
   have hcut2:cut l (p:Int) ((p+m:Nat):Int)=some ((l.drop p).take sz):=by
    unfold cut;have:(decide (0<=(p:Int))&&decide ((p:Int)<=((p+m:Nat):Int))&&decide (((p+m:Nat):Int)<=(l.length:Int)))=true:=by simp;omega
    simp only [this,zA];refine congrArg some ?_;simp only [zLn];rw [List.drop_take,Nat.add_sub_cancel_left,hm2];by_cases hs:sz<=l.length-p
    .rw [Nat.min_eq_left hs]
    .rw [Nat.min_eq_right (by omega),zMs (l:=l.drop p) (by simp),zMs (l:=l.drop p) (by simp;omega)]
   have hnext:=ih (p+sz) (pre++[(l.drop p).take sz]) (by simp only [zLW] at hf ⊢;omega) (by rw [e,hch];simp) (by omega);have hlen:((pre++[(l.drop p).take sz]).length:Int)=(pre.length:Int)+1:=by simp
   rw [hlen] at hnext;cases hfull:(decide ((p:Int)=0)&&decide (((p+m:Nat):Int)=(l.length:Int))&&decide (((p+m:Nat):Int)=(l.length:Int))) with
   | true =>
    simp only [zA];have hl:l=(l.drop p).take sz:= ?_
    .rw [<-hl] at hn;rw [hn];exact hnext
    simp only [zKF,decide_eq_true_eq] at hfull;obtain ⟨⟨hp0,hpl⟩,_⟩:=hfull;have hp00:p=0:=by omega
    rw [hp00,List.drop_zero,zMs (by omega)]
   | false =>
    simp only [zM,hcut2,zKE,decide_true,zA];rw [hn];exact hnext
  .have hnl: ¬(p:Int)<(l.length:Int):=by omega
   have hd:l.drop p=[]:=zMf (by omega);simp only [hnl,decide_false,zM,zKE];rw [hd] at e;simp only [um,zKI] at e;rw [e]
theorem zf9 (n:Int) (ys:List (List Int)) (l:List Int) (sz:Int) (h:zlu l sz=some ys):yY (uX ys) vW (n,0,0,l,sz,())=some (.brk (n,(ys.length:Int),())):=by
 unfold zlu at h;cases hc:(decide (1<=sz)&&decide (sz<1000000)&&decide ((l.length:Int)<1000000)) with
 | false=>simp [hc] at h
 | true =>
  simp only [hc,zA] at h;injection h with h;simp only [zKF,decide_eq_true_eq] at hc;obtain ⟨⟨c1,c2⟩,c3⟩:=hc;have k:=ziQ _ (l.length+1) vW _ (ze7 n ys l sz.toNat (by omega) (by omega) (by omega) l.length 0 [] (by simp) (by simpa using h.symm) (by omega)) (by unfold vW;omega);have hs:((sz.toNat:Nat):Int)=sz:=by omega
  rw [hs] at k;exact k
theorem zfn (G:Nat->Prop) (W0:World) (hG:zoA G W0):Xx Tryz.prog G W0 77 uo:=by
 obtain ⟨c,hc⟩:=zMv.1 zJx;refine zp9 (Cg:=Zm []) rfl zrR (fun f s hs=>Oks.at .nil f s hs) rfl zwy (fun g it h=>by cases h) zI9 zKo hc uo (zLj (by kernel_rfl)) rfl (fun n x ys h=>?_);refine Eq.trans (zgE n ys x.1 x.2.1) ?_;rw [Xe,zf9 n ys x.1 x.2.1 h];rfl
end Go.Pe.G
namespace Go.Pe.G
open Go.Pe Go.Proofs
theorem zEH (bk off cap:Nat) (l:List Int) (w:World) (hH:Go.Sort.Holds (Value.int .i64) w bk off l.toArray) (hb:bk<w.heap.size) (hlen:l.length<4294967296) :
  Calls Tryz.prog 203 #[.slice (some ⟨bk,off,none⟩) l.length cap] w fun e w'=>e= .returned (.tuple #[])/\∃n os,w'=Go.Sort.grow (Go.Sort.putRow (Value.int .i64) (Go.Sort.ahead w n) bk off (wJ l).toArray) os:=by
 have hsz:l.toArray.size=l.length:=by simp
 have hlog:Go.Sort.bitsLen l.length<4611686018427387904:=by
  unfold Go.Sort.bitsLen;split
  .omega
  .rename_i h0;have:=(Nat.log2_lt h0 (k:=32)).2 (by omega);omega
 have hdep:=Go.Sort.pdqDepth_le_59 Go.Sort.ltInt l.toArray 0 l.toArray.size (Go.Sort.bitsLen l.toArray.size) true true (by rw [hsz];omega);have hs:Go.Sort.pdq Go.Sort.ltInt l.toArray 0 l.toArray.size (Go.Sort.bitsLen l.toArray.size) true true=(wJ l).toArray:=Go.Proofs.Any.sort_int_eqD l;have hP:Calls Tryz.prog 227 #[.slice (some ⟨bk,off,none⟩) l.length cap,.int .i64 0,.int .i64 (l.length:Int),.int .i64 ((Go.Sort.bitsLen l.length:Nat):Int)] w fun e w'=>e= .returned (.tuple #[])/\∃n os,w'=Go.Sort.grow (Go.Sort.putRow (Value.int .i64) (Go.Sort.ahead w n) bk off (wJ l).toArray) os:=by
  have hk:=Go.calls_of_every_depth fun D=>Go.Proofs.Any.pdqWalkInInt Go.Proofs.laysPd D 65 bk off cap 0 l.toArray.size (Go.Sort.bitsLen l.toArray.size) l.toArray w (by omega) hH hb (zLI _) (zKJ _) (by rw [hsz];omega) (by rw [hsz];exact hlog) (Or.inl rfl);rw [hs,hsz] at hk;exact hk
 have hL:Calls Tryz.prog 228 #[.int .u64 (l.length:Int)] w fun e w'=>e= .returned (.int .i64 ((Go.Sort.bitsLen l.length:Nat):Int))/\w'=w:=by
  have hk:=Go.calls_of_every_depth fun D=>Go.Proofs.AnyS.bits_LenIn Go.Proofs.laysLn D (l.length:Int) w (by omega) (by omega);rw [zLn,Go.Proofs.bitLen_eq _ (by omega)] at hk;exact hk
 clear hH hdep hs hsz
 go_enter Tryz.func203,Tryz.ntmps203
 go_wp2_with (first
  | (go_at_call 228;refine hL.mono ?_;rintro e w' ⟨rfl,rfl⟩)
  | (go_at_call 227;refine hP.mono ?_;rintro e w' ⟨rfl,n,os,rfl⟩))
 go_end0
 exact ⟨rfl,n,os,rfl⟩
theorem zFM (a:Option Addr) (w:World):Calls Tryz.prog 203 #[.slice a 0 0] w fun e w'=>e= .returned (.tuple #[])/\w'=w:=by
 have hP:=Go.calls_of_every_depth fun D=>Go.Proofs.AnyS.pdqsort_int_none_in Go.Proofs.laysPd D a 0 w;have hL:Calls Tryz.prog 228 #[.int .u64 0] w fun e w'=>e= .returned (.int .i64 0)/\w'=w:=Go.calls_of_every_depth fun D=>Go.Proofs.AnyS.bits_LenIn Go.Proofs.laysLn D 0 w (by omega) (by omega)
 go_enter Tryz.func203,Tryz.ntmps203
 go_wp2_with (first
  | (go_at_call 228;refine hL.mono ?_;rintro e w' ⟨rfl,rfl⟩)
  | (go_at_call 227;refine hP.mono ?_;rintro e w' ⟨rfl,rfl⟩))
 go_end0
 exact ⟨rfl,rfl⟩
noncomputable def zvf:zK E:=sp (cf [] [] [] [] [] []) Tryz.f202 ⟨[vL],[]⟩ ⟨[.own 0],[.row true (.int .i64)]⟩ [oL] [oL]
theorem zId (a:List Int):zvf.F (a,())=bif a.isEmpty then zlG (some (([]:List Int),())) ((yD (([]:List Int)++a)).bind fun l=>some (l,())) else (yD (([]:List Int)++a)).bind fun l=>some (l,()):=zF (by kernel_rfl)
theorem zIH {a:List Int}(h:a.length<4294967296):zvf.F (a,())=some (a,()):=by
 have hr:yD a=some a:=by rw [zuw,zw h];rfl
 rw [zId,zKP,hr];cases a with
 | nil=>exact zeG _
 | cons x l=>rfl
theorem zD9 {G:Nat->Prop}{W0:World}(hG:zoA G W0):Xj Tryz.prog G W0 202 zvf :=
 zzf (C:=cf [] [] [] [] [] []) zrR (zxg .nil) rfl (zAw .nil) zwy Tryz.func202 (by kernel_rfl) (by kernel_rfl) (by kernel_rfl)
theorem zIC {w w':World}{A A' U U':Nat->Prop}{μ:Nat->Loc}{id:Nat}{v:Value}(h:ym E w A U μ (.own id) v) (hU:U' id):ym E w' A' U' μ (.own id) v:=by
 cases h with
 | own _ b off len cap _ hμ=>exact .own id b off len cap hU hμ
 | own0 _ a a2 _ hμ=>exact .own0 id a a2 hU hμ
theorem zHd {A1:Nat->Prop}{μ1:Nat->Loc}{l:List Int}{w1:World}{v1:Value}(S:z9 A1 μ1 [Blk.row (E:=E) true (.int .i64) l] w1) (h0:ym E w1 (Av A1 μ1 [Blk.row (E:=E) true (.int .i64) l]) (Us [Blk.row (E:=E) true (.int .i64) l]) μ1 (.own 0) v1) (hlen:l.length<4294967296) :
  Calls Tryz.prog 203 #[v1] w1 fun e w2=>e= .returned (.tuple #[])/\z9 A1 μ1 [Blk.row (E:=E) true (.int .i64) (wJ l)] w2/\Adv (Lv μ1 [Blk.row (E:=E) true (.int .i64) l]) w1 (Lv μ1 [Blk.row (E:=E) true (.int .i64) (wJ l)]) w2:=by
 have hok:=S.ok 0;cases h0 with
 | own0 _ a1 a2 hU hμ =>
  have hl:l=[]:=by
   rcases hok with ⟨_,_,_,_,_,e1,_⟩ | ⟨e,_⟩
   .have e1:μ1 0=_:=e1;rw [hμ] at e1;cases e1
   .exact e
  subst hl;have e0:wJ []=[]:=by unfold wJ;simp
  refine (zFM a1 w1).mono ?_;rintro e w' ⟨rfl,rfl⟩;rw [e0];exact ⟨rfl,S,Adv.refl _ _⟩
 | own _ bk off len cap hU hμ =>
  obtain ⟨hA,hb⟩:=S.out 0 bk off len cap rfl hμ;obtain ⟨cc,vs,t,rfl,e2,h1,h2,h3,h4⟩:∃(cc:Array Value) (vs:Nat->Value) (t:TypeId),len=l.length/\w1.heap[bk]? =some (.cells cc t (0,0))/\l.length<=cap/\off+cap*1<=cc.size /\
    (∀i,i<l.length->∀j u,(vs i).cells[j]? =some u->cc[off+i*1+j]? =some u)/\∀i (h:i<l.length),yt E w1 (Av A1 μ1 [Blk.row true (.int .i64) l]) (.int .i64) (vs i) l[i]:=by
   rcases hok with ⟨b',off',cap',cc,vs,e1,⟨t,f,e2,e3⟩,h1,h2,h3,h4⟩ | ⟨_,a,e⟩
   .have e1:μ1 0=_:=e1;rw [hμ] at e1;injection e1 with q1 q2 q3 q4;subst q1;subst q2;subst q4;have e3:=e3 rfl;subst e3;exact ⟨cc,vs,t,q3,e2,h1,h2,h3,h4⟩
   .have e:μ1 0=_:=e;rw [hμ] at e;cases e
  have hcell:∀(j:Nat) (h:j<l.length),cc[off+j]? =some (.int .i64 l[j]):=fun j h=>by
   have r:=h4 j h;have q:=h3 j h 0;obtain ⟨z,hz⟩:∃z:Int,z=l[j]:=⟨_,rfl⟩
   rw [<-hz] at r ⊢;generalize vs j=vj at r q;cases r with
   | int k z =>
    have:=q _ rfl;rw [zLz,zLp] at this;exact this
  have hsz:l.toArray.size=l.length:=by simp
  have hH:Go.Sort.Holds (Value.int .i64) w1 bk off l.toArray:=fun j hj=>by
   have hj:j<l.length:=by rw [<-hsz];exact hj
   refine ⟨?_,?_⟩
   .unfold World.cell?;rw [e2];show cc[off+j]? =some (Value.int .i64 l.toArray[j]!);rw [hcell j hj,getElem!_pos l.toArray j (by rw [hsz];exact hj)];rfl
   .unfold World.frozen?;rw [e2];simp
  refine (zEH bk off cap l w1 hH hb hlen).mono ?_;rintro e w' ⟨rfl,n,os,rfl⟩;obtain ⟨hS,hAd⟩:=zv1 S hμ hb e2 h1 h2 hcell n os;exact ⟨rfl,hS,hAd⟩
theorem zq1 {G:Nat->Prop}{W0:World}(hG:zoA G W0):Xj Tryz.prog G W0 154 zsY:=by
 intro A0 μ w args x y wd S hr hy;obtain ⟨l,⟨⟩⟩:=x;have hy:zo1 l=some y:=hy;unfold zo1 at hy;cases hc:decide (l.length<4294967296) with
 | false=>rw [hc] at hy;cases hy
 | true =>
 rw [hc] at hy;injection hy with hy;subst hy;have hlen:l.length<4294967296:=by simpa using hc
 have hcl:=zD9 hG A0 μ w args (l,()) (l,()) wd S hr (zIH hlen);obtain ⟨v,rfl⟩:∃v,args= #[v]:=by
  have hl:=hr.1;have hl:1=args.toList.length:=hl
  match ha:args.toList,hl with
  | [v],_=>exact ⟨v,by rw [<-zMl (xs:=args),ha]⟩
 go_enter Tryz.func154,Tryz.ntmps154
 have hout:∀ {vs:List Value}{A1:Nat->Prop}{μ1:Nat->Loc}{w1:World},zA0 A0 μ (yJ id zvf.inn (HL.toP zvf.inn.holes (l,()))).2 w zvf (zvf.go.to (l,())) vs A1 μ1 w1->∃v1,vs=[v1]/\ym E w1 (Av A1 μ1 [Blk.row (E:=E) true (.int .i64) l]) (Us [Blk.row (E:=E) true (.int .i64) l]) μ1 (.own 0) v1/\z9 A1 μ1 [Blk.row (E:=E) true (.int .i64) l] w1:=fun {vs A1 μ1 w1} oc=>by
  have hl:=oc.rep.1;have hl:1=vs.length:=hl
  match vs,hl,oc with
  | [v1],_,oc=>exact ⟨v1,rfl,oc.rep.2 0 (.own 0) v1 rfl rfl,oc.sim⟩
 go_wp2_with (first | (go_at_call 202;refine hcl.mono ?_;rintro e w1 ⟨vs,A1,μ1,rfl,oc⟩;obtain ⟨v1,rfl,h1,hS1⟩:=hout oc;have hso:=zHd hS1 h1 hlen) | (go_at_call 203;refine hso.mono ?_;rintro e w2 ⟨rfl,hS2,hAd2⟩))
 go_ret
 exact ⟨[v1],A1,μ1,rfl,hS2,RL.cons (zIC h1 rfl) RL.nil,oc.adv.trans hAd2,oc.up,fun b hb=>zK0 (oc.low b hb) hAd2.size,fun j ws h=>by cases j<;>cases h⟩
end Go.Pe.G
namespace Go.Proofs
open Go.Shelf
def zvH:Go.Shelf.Ren:={f:=fun k=>if k=6 then 109 else if k=10 then 219 else k,g:=fun k=>k,t:=fun k=>if k=0 then 0 else if k=3 then 3 else if k=4 then 4 else if k=22 then 38 else if k=23 then 3 else if k=25 then 125 else k}
theorem zIw:Bears Tryz.prog (zvH.f 6) (SlBodyH.n6 zvH):=Exists.intro ("slices.IndexFunc[[]int,int]") ⟨by kernel_rfl,by kernel_rfl⟩
theorem zI2:Bears Tryz.prog (zvH.f 10) (SlBodyH.n10 zvH):=Exists.intro ("slices.DeleteFunc[[]int,int]") ⟨by kernel_rfl,by kernel_rfl⟩
theorem zJs:SlLaysH.n10 Tryz.prog zvH:=by
 constructor<;>first | exact zIw | exact zI2 | kernel_rfl | (intro w;kernel_rfl)
def znS:Go.Shelf.Ren:={f:=fun k=>if k=4 then 204 else k,g:=fun k=>k,t:=fun k=>if k=0 then 0 else if k=3 then 3 else if k=4 then 4 else if k=9 then 9 else if k=20 then 20 else if k=22 then 114 else if k=25 then 3 else k}
theorem zI0:Bears Tryz.prog (znS.f 4) (Body8.n4 znS):=Exists.intro ("slices.Grow[besom/bag.Bag,int]") ⟨by kernel_rfl,by kernel_rfl⟩
theorem zFr:Lays8.n4 Tryz.prog znS:=by
 constructor<;>first | exact zI0 | kernel_rfl | (intro w;kernel_rfl)
end Go.Proofs
namespace Go.Pe.G
open Go.Pe Go.Proofs
theorem lv1 {μ:Nat->Loc}{l:List Int}{b:Nat}(h:Lv (E:=E) μ [.free,Blk.row true (.int .i64) l] b):∃off len cap,μ 1= .blk b off len cap:=by
 obtain ⟨id,off,len,cap,hl,hm⟩:=h
 match id with
 | 0=>cases hl
 | 1=>exact ⟨off,len,cap,hm⟩
 | id+2=>cases hl
theorem zKl {A0:Nat->Prop}{μ:Nat->Loc}{l:List Int}{w:World}{b off cap:Nat}{cc:Array Value}{t:TypeId}(h0:μ 1= .blk b off l.length cap) (hA: ¬A0 b) (e2:w.heap[b]? =some (.cells cc t (0,0))) (h1:l.length<=cap) (h2:off+cap<=cc.size)
  (hc:∀(i:Nat) (h:i<l.length),cc[off+i]? =some (.int .i64 l[i])):z9 A0 μ [.free,Blk.row (E:=E) true (.int .i64) l] w:=by
 refine ⟨fun id=>?_,fun i j b o l c b' o' l' c' ne hi hj=>?_,fun id b' o l' c ho hm=>?_⟩
 .match id with
  | 0=>exact trivial
  | 1 =>
   refine .inl ⟨b,off,cap,cc,fun i=>.int .i64 (l.getD i 0),h0,⟨t,(0,0),e2,fun _=>rfl⟩,h1,?_,fun i hi j u hu=>?_,fun i hi=>?_⟩
   .show off+cap*1<=cc.size;omega
   .have hi:i<l.length:=hi
    match j,hu with
    | 0,hu =>
     have hu:some (Value.int .i64 (l.getD i 0))=some u:=hu;injection hu with hu;subst hu;show cc[off+i*1+0]? =_;rw [zLz,zLp,hc i hi,zKH,zKG hi];rfl
    | j+1,hu=>cases hu
   .have hi:i<l.length:=hi;have e:l.getD i 0=l[i]:=by rw [zKH,zKG hi];rfl
    show yt E _ _ (.int .i64) (.int .i64 (l.getD i 0)) l[i];rw [e];exact .int .i64 _
  | id+2=>exact trivial
 .match i,j with
  | 0,_=>cases hi
  | 1,0=>cases hj
  | 1,1=>exact zm rfl ne
  | 1,j+2=>cases hj
  | i+2,_=>cases hi
 .match id with
  | 0=>cases ho
  | 1 =>
   have hm:μ 1=Loc.blk b' o l' c:=hm;rw [h0] at hm;injection hm with hm;subst hm;exact ⟨hA,(zK5.1 e2).1⟩
  | id+2=>cases ho
theorem zJ2 {A0:Nat->Prop}{μ:Nat->Loc}{w:World}{b cap:Nat}{cc:Array Value}{t:TypeId}(h0:μ 0= .blk b 0 0 cap) (hA: ¬A0 b) (e2:w.heap[b]? =some (.cells cc t (0,0))) (h2:cap<=cc.size):z9 A0 μ [Blk.row (E:=E) true (.int .i64) []] w:=by
 refine ⟨fun id=>?_,fun i j b o l c b' o' l' c' ne hi hj=>?_,fun id b' o l' c ho hm=>?_⟩
 .match id with
  | 0 =>
   refine .inl ⟨b,0,cap,cc,fun i=>.int .i64 0,h0,⟨t,(0,0),e2,fun _=>rfl⟩,zLI _,?_,fun i hi=>zm hi (Nat.not_lt_zero _),fun i hi=>zm hi (Nat.not_lt_zero _)⟩;show 0+cap*1<=cc.size;omega
  | id+1=>exact trivial
 .match i,j with
  | 0,0=>exact zm rfl ne
  | 0,j+1=>cases hj
  | i+1,_=>cases hi
 .match id with
  | 0 =>
   have hm:μ 0=Loc.blk b' o l' c:=hm;rw [h0] at hm;injection hm with hm;subst hm;exact ⟨hA,(zK5.1 e2).1⟩
  | id+1=>cases ho
theorem zJT {A0:Nat->Prop}{μ:Nat->Loc}{w:World}{a:Option Addr}(h0:μ 0= .none a):z9 A0 μ [Blk.row (E:=E) true (.int .i64) []] w:=by
 refine ⟨fun id=>?_,fun i j b o l c b' o' l' c' ne hi hj=>?_,fun id b' o l' c ho hm=>?_⟩
 .match id with
  | 0=>exact .inr ⟨rfl,a,h0⟩
  | id+1=>exact trivial
 .match i,j with
  | 0,0=>exact zm rfl ne
  | 0,j+1=>cases hj
  | i+1,_=>cases hi
 .match id with
  | 0 =>
   have hm:μ 0=Loc.blk b' o l' c:=hm;rw [h0] at hm;cases hm
  | id+1=>cases ho
theorem zJi {A0:Nat->Prop}{μ:Nat->Loc}{l:List Int}{w:World}(S:z9 A0 μ [Blk.row (E:=E) true (.int .i64) l] w) {bk off len cap:Nat}(hμ:μ 0= .blk bk off len cap) :
  ¬A0 bk/\bk<w.heap.size/\len=l.length/\∃(cc:Array Value) (t:TypeId),w.heap[bk]? =some (.cells cc t (0,0))/\l.length<=cap/\off+cap<=cc.size/\∀(j:Nat) (h:j<l.length),cc[off+j]? =some (.int .i64 l[j]):=by
 obtain ⟨hA,hb⟩:=S.out 0 bk off len cap rfl hμ;refine ⟨hA,hb,?_⟩;rcases S.ok 0 with ⟨b',off',cap',cc,vs,e1,⟨t,f,e2,e3⟩,h1,h2,h3,h4⟩ | ⟨_,a,e⟩
 .have e1:μ 0=_:=e1;rw [hμ] at e1;injection e1 with q1 q2 q3 q4;subst q1;subst q2;subst q4;have e3:=e3 rfl;subst e3;have h2:off+cap*1<=cc.size:=h2;refine ⟨q3,cc,t,e2,h1,by omega,fun j h=>?_⟩;have r:=h4 j h;have q:=h3 j h 0;obtain ⟨z,hz⟩:∃z:Int,z=l[j]:=⟨_,rfl⟩
  have r:yt E w _ (.int .i64) (vs j) l[j]:=r;rw [<-hz] at r ⊢;generalize vs j=vj at r q;cases r with
  | int k z =>
   have:=q _ rfl;have this:cc[off+j*1+0]? =_:=this;rw [zLz,zLp] at this;exact this
 .have e:μ 0=_:=e;rw [hμ] at e;cases e
theorem zE6 (W:World) (x:Int):Calls Tryz.prog 220 #[.int .i64 x] W fun e w'=>e= .returned (.bool (decide (x=0)))/\w'=W:=by
 go_enter Tryz.func220,Tryz.ntmps220
 go_wp2
 go_ret
 exact ⟨rfl,rfl⟩
theorem zt1 {G:Nat->Prop}{W0:World}(hG:zoA G W0):Xj Tryz.prog G W0 199 zAc:=by
 intro A0 μ w args x y wd S hr hy;obtain ⟨l,⟨⟩⟩:=x;have hy:zwD l=some y:=hy;unfold zwD at hy;cases hc:(decide (0<l.length)&&decide (l.length<4294967296)) with
 | false=>rw [hc] at hy;cases hy
 | true =>
 rw [hc] at hy;injection hy with hy;subst hy;simp only [zKF,decide_eq_true_eq] at hc;obtain ⟨hpos,hlen⟩:=hc;obtain ⟨v,rfl,h0⟩:∃v,args= #[v]/\ym E w (Av A0 μ [Blk.row true (.int .i64) l]) (Us [Blk.row true (.int .i64) l]) μ (.own 0) v:=by
  have hl:=hr.1;have hl:1=args.toList.length:=hl
  match ha:args.toList,hl with
  | [v],_=>exact ⟨v,by rw [<-zMl (xs:=args),ha],hr.2 0 (.own 0) v rfl (by rw [ha];rfl)⟩
 have S:z9 A0 μ [Blk.row true (.int .i64) l] w:=S;cases h0 with
 | own0 _ a1 a2 hU hμ =>
  exfalso;rcases S.ok 0 with ⟨_,_,_,_,_,e1,_⟩ | ⟨e,_⟩
  .have e1:μ 0=_:=e1;rw [hμ] at e1;cases e1
  .rw [e] at hpos;cases hpos
 | own _ bk off len cap hU hμ =>
  obtain ⟨hA,hb,rfl,cc,t,e2,h1,h2,hcell⟩:=zJi S hμ;have hsz:l.toArray.size=l.length:=by simp
  have hH:Go.Sort.Holds (Value.int .i64) w bk off l.toArray:=fun j hj=>by
   have hj:j<l.length:=by rw [<-hsz];exact hj
   refine ⟨?_,?_⟩
   .unfold World.cell?;rw [e2];show cc[off+j]? =some (Value.int .i64 l.toArray[j]!);rw [hcell j hj,getElem!_pos l.toArray j (by rw [hsz];exact hj)];rfl
   .unfold World.frozen?;rw [e2];simp
  have fg:∀(W:World) (x:Int),FnGives Tryz.prog 220 #[] #[.int .i64 x] (.bool (decide (x=0))) W:=fun W x=>(zE6 W x).mono (by rintro e w' ⟨rfl,rfl⟩;exact ⟨rfl,0,rfl⟩);have eg:∀args w,(callFunc 220 args).run Tryz.prog w= .ok (.enter 220 args) w:=enters_of Tryz.func220 (by kernel_rfl) rfl;have hd:=AnyE.slices_DeleteFunc zJs (Value.int .i64) (fun _=>rfl) (fun x:Int=>decide (x=0)) 220 #[] eg 0 (fun w=>by kernel_rfl) bk off cap l.toArray w (fun W x _=>fg W x) (fun n os dk x _=>fg _ x) hH (by rw [hsz];omega) (by rw [hsz];exact h1);rw [hsz] at hd;rw [show l.toArray.toList=l from rfl] at hd;have hf:(l.filter fun x=> !decide (x=0)).length<=l.length:=zLS _ _;clear eg fg;generalize hm:(l.filter fun x=> !decide (x=0))=m at hd hf ⊢;have hd:Calls Tryz.prog 219 #[.slice (some ⟨bk,off,none⟩) l.length cap,.func (.func 220) #[] #[]] w fun e w'=>e= .returned (.slice (some ⟨bk,off,none⟩) m.length cap)/\∃q,w'=Go.Sort.putRow (Value.int .i64) (Go.Sort.ahead w q) bk off (m++List.replicate (l.length-m.length) 0).toArray:=hd
  go_enter Tryz.func199,Tryz.ntmps199
  go_wp2_with (go_at_call 219;refine hd.mono ?_;rintro e w' ⟨rfl,q,rfl⟩)
  go_ret
  have hheap:∀k,(Go.Sort.putRow (Value.int .i64) (Go.Sort.ahead w q) bk off (m++List.replicate (l.length-m.length) 0).toArray).heap[k]? =if bk=k then some (.cells (Go.Sort.putCells (Value.int .i64) off (m++List.replicate (l.length-m.length) 0).toArray cc) t (0,0)) else w.heap[k]? :=fun k=>by
   unfold Go.Sort.putRow Go.Sort.mapBlock Go.Sort.ahead;dsimp only;rw [Array.getElem?_modify];split
   .rename_i h;subst h;rw [e2];rfl
   .rfl
  have hput:∀(i:Nat) (h:i<m.length),(Go.Sort.putCells (Value.int .i64) off (m++List.replicate (l.length-m.length) 0).toArray cc)[off+i]? =some (.int .i64 m[i]):=fun i h=>by
   unfold Go.Sort.putCells;rw [Array.getElem?_mapIdx,hcell i (by omega),zLH,zb ⟨by omega,by simp;omega⟩,show off+i-off=i by omega,getElem!_pos _ i (by simp;omega)];simp [zMx h]
  have hsize:(Go.Sort.putRow (Value.int .i64) (Go.Sort.ahead w q) bk off (m++List.replicate (l.length-m.length) 0).toArray).heap.size=w.heap.size:=by simp
  refine ⟨[.slice (some ⟨bk,off,none⟩) m.length cap],A0,fun id=>if id=1 then .blk bk off m.length cap else μ id,rfl,?_,RL.cons (.own 1 bk off m.length cap rfl rfl) RL.nil,⟨rfl,rfl,rfl,by rw [hsize];exact zKJ _,fun b hb2 hn=>?_,fun b _ h=>?_⟩,fun _ h=>h,fun b h=>by rw [hsize];exact wd.low b h,fun j ws h=>by
   cases j with
   | zero=>cases h
   | succ j=>cases h⟩
  .show z9 A0 _ [.free,Blk.row true (.int .i64) m] _;have hmc:m.length<=cap:=zLM hf h1;refine zKl (b:=bk) (off:=off) (cap:=cap) (t:=t) rfl hA (by rw [hheap,zb rfl]) hmc ?_ hput;unfold Go.Sort.putCells;rw [Array.size_mapIdx];exact h2
  .rw [hheap,zc];rintro rfl;exact hn ⟨0,off,l.length,cap,rfl,hμ⟩
  .obtain ⟨o,n,c,e⟩:=lv1 h;have e:Loc.blk bk off m.length cap= .blk b o n c:=e;injection e with e;subst e;exact ⟨0,off,l.length,cap,rfl,hμ⟩
theorem zE1 (a:Option Addr) (k:Nat) (w:World) (h0:0<k) (hk:k<4294967296):Calls Tryz.prog 204 #[.slice a 0 0,.int .i64 (k:Int)] w fun e w'=>∃(G:Nat) (cc:Array Value) (t:TypeId),G<=cc.size/\e= .returned (.slice (some ⟨w.heap.size,0,none⟩) 0 G)/\w'=w.drew.alloc (.cells cc t):=by
 obtain ⟨i0,hi⟩:=zMv.1 (show (Tryz.prog.info? (znS.t 25)).isSome=true by kernel_rfl);have h2:(Tryz.prog.info? (znS.t 25)).map TypeInfo.size=some 1:=by kernel_rfl
 have h3:(Tryz.prog.info? (znS.t 25)).map TypeInfo.bytes=some 8:=by kernel_rfl
 have h4:(Tryz.prog.info? (znS.t 25)).map TypeInfo.zero=some (some (.int .i64 0)):=by kernel_rfl
 rw [hi] at h2 h3 h4;simp only [zLH,Option.some.injEq] at h2 h3 h4;have hd:=Any8.slices_Grow_grow zFr i0 (.int .i64 0) hi h4 (by rw [h2];decide) a 0 0 k [] w (zKJ _) (by omega) (by rw [h3];omega) (by omega) (by simp) (fun _=>rfl) (fun b _ j v h=>by cases h);refine hd.mono ?_;rintro e w' ⟨rfl,rfl⟩;refine ⟨_,_,_,?_,rfl,rfl⟩;have hg:=grownCap_ge w (0+k) 0 (znS.t 25);have z1:(Value.int IntKind.i64 0).cells.size=1:=rfl;simp only [Array.size_append,Builtin.zeroCells,Array.size_map,Array.size_range,z1];simp;omega
theorem zC5 {G:Nat->Prop}{W0:World}(hG:zoA G W0):Xj Tryz.prog G W0 204 zDU:=by
 intro A0 μ w args x y wd S hr hy;obtain ⟨n,⟨⟩⟩:=x;have hy:zwb n=some y:=hy;unfold zwb at hy;cases hc:(decide (0<=n)&&decide (n<4294967296)) with
 | false=>rw [hc] at hy;cases hy
 | true =>
 rw [hc] at hy;injection hy with hy;subst hy;simp only [zKF,decide_eq_true_eq] at hc;obtain ⟨hn0,hn1⟩:=hc;obtain ⟨k,hk0⟩:=Int.eq_ofNat_of_zero_le hn0;have hk1:k<4294967296:=by
  have h: @Eq Int n (k:Int):=hk0;have h2: @LT.lt Int _ n (4294967296:Int):=hn1;omega
 subst hk0;obtain ⟨a,rfl⟩:∃a,args= #[.slice a 0 0,.int .i64 (k:Int)]:=by
  have hl:=hr.1;have hl:2=args.toList.length:=hl
  match ha:args.toList,hl with
  | [v,v1],_ =>
   have h0:=hr.2 0 .nils v rfl (by rw [ha];rfl);have h1:=hr.2 1 (.v (.int .i64) (k:Int)) v1 rfl (by rw [ha];rfl);have e1:v1= .int .i64 (k:Int):=by
    cases h1 with
    | v _ _ _ h=>cases h with
     | int k z=>rfl
   subst e1;cases h0 with
   | nils a=>exact ⟨a,by rw [<-zMl (xs:=args),ha]⟩
 have S:z9 A0 μ ([]:List (Blk E)) w:=S;by_cases hk:k=0
 .subst hk;refine (Any8.slices_Grow_room zFr a 0 0 0 w (zKJ _) (by omega) (by omega) (by omega)).mono ?_;rintro e w' ⟨rfl,rfl⟩;refine ⟨[.slice a 0 0],A0,fun _=>.none a,rfl,zJT rfl,RL.cons (.own0 0 a a rfl rfl) RL.nil,⟨rfl,rfl,rfl,zKJ _,fun b _ _=>rfl,fun b _ h=>?_⟩,fun _ h=>h,wd.low,fun j ws h=>by cases h⟩;obtain ⟨id,off,len,cap,_,hm⟩:=h;cases hm
 .refine (zE1 a k w (by omega) hk1).mono ?_;rintro e w' ⟨N,cc,t,hN,rfl,rfl⟩;have hat:(w.drew.alloc (.cells cc t)).heap[w.heap.size]? =some (.cells cc t (0,0)):=by
   show (w.heap.push _)[w.heap.size]? =_;simp
  have hold:∀b,b<w.heap.size->(w.drew.alloc (.cells cc t)).heap[b]? =w.heap[b]? :=fun b hb=>by
   show (w.heap.push _)[b]? =_;rw [zMe,zi]
  have hsz:(w.drew.alloc (.cells cc t)).heap.size=w.heap.size+1:=by simp
  refine ⟨[.slice (some ⟨w.heap.size,0,none⟩) 0 N],A0,fun _=>.blk w.heap.size 0 0 N,rfl,zJ2 rfl (fun h=>by have:=wd.low _ h;omega) hat hN,RL.cons (.own 0 w.heap.size 0 0 N rfl rfl) RL.nil,⟨rfl,rfl,rfl,by rw [hsz];omega,fun b hb _=>hold b hb,fun b hb h=>?_⟩,fun _ h=>h,fun b h=>by have:=wd.low b h;rw [hsz];omega,fun j ws h=>by cases h⟩;obtain ⟨id,off,len,cap,_,hm⟩:=h;injection hm with hm;omega
theorem zzg (n:Int) (s:za) (ys:List (List Int)) (hs:s.Ws.length<1000000):∀(f i:Nat) (l pre:List (List Int)),i+f=s.Ws.length->zyh s f (i:Int)=some l->(∃post,ys=pre++l++post) ->
  yY (Ue ys) (f+1) (n,(pre.length:Int),(s.Ws.length:Int),(i:Int),s,())=some (.brk (n,((pre++l).length:Int),s,()))
 | 0,i,l,pre,hi,h,e=>by
  injection h with h;subst h;rw [yY,zjb,show decide ((i:Int)<(s.Ws.length:Int))=false by rw [decide_eq_false_iff_not];omega];simp
 | f+1,i,l,pre,hi,h,⟨post,e⟩=>by
  simp only [zyh,zKQ] at h;obtain ⟨a,h1,l',h2,h3⟩:=h;injection h3 with h3;subst h3;have ei:w64 ((i:Int)+1)=((i+1:Nat):Int):=by rw [zwL (by omega) (by omega)];omega
  have hn:Xo ys (pre.length:Int) a.1=some ():=by rw [e,zKM];exact ziz pre (l'++post) _
  rw [yY,zjb,show decide ((i:Int)<(s.Ws.length:Int))=true by rw [decide_eq_true_eq];omega,ei,show ((i+1:Nat):Int)=(i:Int)+1 by omega,h1];simp only [zA,zKE,hn];have:=zzg n s ys hs f (i+1) l' (pre++[a.1]) (by omega) (by rw [show ((i+1:Nat):Int)=(i:Int)+1 by omega];exact h2) ⟨post,by rw [e];simp⟩;simpa using this
theorem zyR (n:Int) (s:za) (ys:List (List Int)) (hs:s.Ms.length<1000000):∀(f i:Nat) (l pre:List (List Int)),i+f=s.Ms.length->zxT s f (i:Int)=some l->(∃post,ys=pre++l++post) ->
  yY (zbX ys) (f+1) (n,(pre.length:Int),(s.Ms.length:Int),(i:Int),s,())=some (.brk (n,((pre++l).length:Int),()))
 | 0,i,l,pre,hi,h,e=>by
  injection h with h;subst h;rw [yY,ziW,show decide ((i:Int)<(s.Ms.length:Int))=false by rw [decide_eq_false_iff_not];omega];simp
 | f+1,i,l,pre,hi,h,⟨post,e⟩=>by
  simp only [zxT,zKQ] at h;obtain ⟨a,h1,l',h2,h3⟩:=h;injection h3 with h3;subst h3;have ei:w64 ((i:Int)+1)=((i+1:Nat):Int):=by rw [zwL (by omega) (by omega)];omega
  have hn:Xo ys (pre.length:Int) a.1=some ():=by rw [e,zKM];exact ziz pre (l'++post) _
  rw [yY,ziW,show decide ((i:Int)<(s.Ms.length:Int))=true by rw [decide_eq_true_eq];omega,ei,show ((i+1:Nat):Int)=(i:Int)+1 by omega,h1];simp only [zA,zKE,hn];have:=zyR n s ys hs f (i+1) l' (pre++[a.1]) (by omega) (by rw [show ((i+1:Nat):Int)=(i:Int)+1 by omega];exact h2) ⟨post,by rw [e];simp⟩;simpa using this
theorem zuI (n:Int) (x:HL E.T zc6.holes) (ys:List (List Int)) (h:zcr.F x=some ys):zpq (Xb ys) Tryz.f150 zc6 n x=some (ys.length:Int):=by
 obtain ⟨a1,a2,a3,a4,a5,a6,a7,a8,a9,a10,a11,a12,a13,a14,a15,a16,a17,a18,a19,a20,a21,a22,a23,a24,a25,a26,a27,a28,a29,a30,a31,a32,a33,a34,⟨⟩⟩:=x;refine Eq.trans (zvq n ys a1 a2 a3 a4 a5 a6 a7 a8 a9 a10 a11 a12 a13 a14 a15 a16 a17 a18 a19 a20 a21 a22 a23 a24 a25 a26 a27 a28 a29 a30 a31 a32 a33 a34) ?_;have h:zvw (za.mk (zd.mk a1 a2 a3 a4 a5 a6 a7 a8 (zr.mk a9 a10) a11 a12 a13 a14) (zr.mk a15 a16) a17 a18 (zn.mk a19 a20) a21 a22 a23 a24 a25 a26 (zx.mk a27 a28 a29 a30) a31 a32 (zN.mk a33 a34))=some ys:=h;show ((zch (za.mk (zd.mk a1 a2 a3 a4 a5 a6 a7 a8 (zr.mk a9 a10) a11 a12 a13 a14) (zr.mk a15 a16) a17 a18 (zn.mk a19 a20) a21 a22 a23 a24 a25 a26 (zx.mk a27 a28 a29 a30) a31 a32 (zN.mk a33 a34))).bind fun y1=>(Xo ys 0 y1.1).bind fun _ =>
  (yc (Ue ys) (n,0+1,((za.mk (zd.mk a1 a2 a3 a4 a5 a6 a7 a8 (zr.mk a9 a10) a11 a12 a13 a14) (zr.mk a15 a16) a17 a18 (zn.mk a19 a20) a21 a22 a23 a24 a25 a26 (zx.mk a27 a28 a29 a30) a31 a32 (zN.mk a33 a34)).Ws.length:Int),0,za.mk (zd.mk a1 a2 a3 a4 a5 a6 a7 a8 (zr.mk a9 a10) a11 a12 a13 a14) (zr.mk a15 a16) a17 a18 (zn.mk a19 a20) a21 a22 a23 a24 a25 a26 (zx.mk a27 a28 a29 a30) a31 a32 (zN.mk a33 a34),())).bind _)=_
 generalize za.mk (zd.mk a1 a2 a3 a4 a5 a6 a7 a8 (zr.mk a9 a10) a11 a12 a13 a14) (zr.mk a15 a16) a17 a18 (zn.mk a19 a20) a21 a22 a23 a24 a25 a26 (zx.mk a27 a28 a29 a30) a31 a32 (zN.mk a33 a34)=s at h ⊢;unfold zvw at h;cases hc:(decide (s.Ws.length<1000000)&&decide (s.Ms.length<1000000)) with
 | false=>rw [hc] at h;cases h
 | true =>
 rw [hc,zA] at h;simp only [zKF,decide_eq_true_eq] at hc;simp only [zKQ] at h;obtain ⟨a,e1,b,e2,c,e3,e4⟩:=h;injection e4 with e4;have k2:=ziQ _ _ vW _ (zzg n s ys hc.1 s.Ws.length 0 b [a.1] (by omega) e2 ⟨c,by rw [<-e4];simp⟩) (by unfold vW;omega);have k7:=ziQ _ _ vW _ (zyR n s ys hc.2 s.Ms.length 0 c (a.1::b) (by omega) e3 ⟨[],by rw [<-e4];simp⟩) (by unfold vW;omega);have k2:yY (Ue ys) vW (n,0+1,(s.Ws.length:Int),0,s,())=some (.brk (n,(((a.1::b).length:Nat):Int),s,())):=k2;have k7:yY (zbX ys) vW (n,(((a.1::b).length:Nat):Int),(s.Ms.length:Int),0,s,())=some (.brk (n,(((a.1::b)++c).length:Int),())):=k7;have hn:Xo ys 0 a.1=some ():=by rw [<-e4];exact ziz [] (b++c) _
 rw [e1,zKE,hn,zKE,Xe,k2,zKE];dsimp only;rw [Xe,k7,zKE];dsimp only;rw [<-e4];rfl
end Go.Pe.G
namespace Go.Pe.G
open Go.Pe Go.Proofs
theorem k2 {G:Nat->Prop}{W0:World}{f:Nat}{s:zK E}{ss r} (hs:Xj Tryz.prog G W0 f s) (h:Oks Tryz.prog G W0 ((f,ss)::r)) (hc:Zf Tryz.prog f=true:=by kernel_rfl):Oks Tryz.prog G W0 ((f,s::ss)::r):= .cons _ _ _ _ hc hs h
theorem k1 {G:Nat->Prop}{W0:World}{f:Nat}{s:zK E}{r} (hs:Xj Tryz.prog G W0 f s) (h:Oks Tryz.prog G W0 r) (hc:Zf Tryz.prog f=true:=by kernel_rfl):Oks Tryz.prog G W0 ((f,[s])::r):= .cons _ _ _ _ hc hs (.skip _ _ h)
abbrev Sd (G:Nat->Prop) (W0:World):=Xj (E:=E) Tryz.prog G W0
theorem gs {G:Nat->Prop}{W0:World}{l:List (Nat×List (zK E))}{loops mv kept pk its} {f:FuncId}{fn:Func}{inn out:wo}{gi go:List Grp}{hi:Yl E gi=inn.holes} {ho:Yl E go=out.holes} (h:Oks Tryz.prog G W0 l) (h2:Its Tryz.prog G W0 its) (hf:Tryz.prog.funcs[f]? =some fn:=by kernel_rfl) (hb:fn.body.isSome=true:=by kernel_rfl)
  (hk:(cf l loops mv kept pk its).kept=zkD inn.blks 0:=by kernel_rfl) (hn:Nat.ble inn.vals.length fn.ntmps=true:=by kernel_rfl):Xj Tryz.prog G W0 f (sp (cf l loops mv kept pk its) fn inn out gi go hi ho):=zzf (C:=cf l loops mv kept pk its) zrR (zxg h) rfl (zAw h2) zwy hf hb hk hn
variable {G:Nat->Prop}{W0:World}(hG:zoA G W0)
include hG
theorem zoo:Sd G W0 95 zex:=gs .nil .nil
theorem Wi:Sd G W0 109 vh:=gs (k1 (zoo hG) .nil) .nil
theorem Xt:Sd G W0 71 wN:=gs (k1 (Wi hG) .nil) .nil
theorem zqW:Sd G W0 94 zhh:=gs (k1 (Xt hG) .nil) .nil
theorem X5:Sd G W0 149 vi:=gs (k1 (zqW hG) .nil) .nil
theorem Xw:Sd G W0 96 wL:=gs (k1 (X5 hG) .nil) .nil
theorem zci:Sd G W0 53 zck:=gs (k1 (Xw hG) .nil) .nil
theorem X7:Sd G W0 54 UF:=gs .nil .nil
theorem Wb:Sd G W0 60 UI:=gs .nil .nil
theorem zbE:Sd G W0 70 zbk:=gs .nil .nil
theorem znf:Sd G W0 69 zdl:=gs (k1 (zbE hG) .nil) .nil
theorem zp2:Sd G W0 72 zgP:=gs (k1 (zbE hG) .nil) .nil
theorem WM:Sd G W0 109 vE:=gs (k1 (zp2 hG) .nil) .nil
theorem X4:Sd G W0 71 vb:=gs (k1 (WM hG) .nil) .nil
theorem zpQ:Sd G W0 159 zhw:=gs .nil .nil
theorem zrU:Sd G W0 112 zmb:=gs (k1 (zpQ hG) .nil) .nil
theorem zrp:Sd G W0 111 zj4:=gs (k1 (zrU hG) .nil) .nil
theorem Y8:Sd G W0 158 wy:=gs (k1 (zrp hG) .nil) .nil
theorem YP:Sd G W0 110 wh:=gs (k1 (Y8 hG) .nil) .nil
theorem ztD:Sd G W0 73 zot:=gs (k1 (YP hG) .nil) .nil
theorem ziT:Sd G W0 44 zgg:=gs .nil .nil
theorem zqc:Sd G W0 114 zhN:=gs (k1 (ziT hG) .nil) .nil
theorem Yr:Sd G W0 160 wb:=gs (k1 (zqc hG) .nil) .nil
theorem Z0:Sd G W0 113 xQ:=gs (k1 (Yr hG) .nil) .nil
theorem zsE:Sd G W0 74 zlK:=gs (k1 (Z0 hG) .nil) .nil
theorem zsg:Sd G W0 24 zmC:=gs (k1 (zci hG) (k1 (X7 hG) (k1 (Wb hG) (k1 (znf hG) (k1 (zbE hG) (k1 (X4 hG) (k1 (ztD hG) (k1 (zsE hG) .nil)))))))) .nil
theorem znk:Sd G W0 68 znm:=gs .nil .nil
theorem XG:Sd G W0 22 zaI:=gs (k1 (znk hG) .nil) .nil
theorem zcT:Sd G W0 75 zho:=gs (k1 (XG hG) .nil) .nil
theorem ziC:Sd G W0 25 zf2:=gs (k1 (zcT hG) .nil) .nil
theorem zmJ:Sd G W0 76 zb9:=gs .nil .nil
theorem zdm:Sd G W0 26 zdH:=gs (k1 (zmJ hG) .nil) .nil
theorem zrL:Sd G W0 27 zlp:=gs .nil .nil
theorem xu:Sd G W0 29 xC:=gs .nil .nil
theorem Va:Sd G W0 28 vG:=gs (k1 (xu hG) .nil) .nil
theorem zri:Sd G W0 30 zjK:=gs .nil .nil
theorem zbI:Sd G W0 31 zbg:=gs .nil .nil
theorem YY:Sd G W0 32 XO:=gs .nil .nil
theorem zto:Sd G W0 33 zoD:=gs .nil .nil
theorem zgu:Sd G W0 34 VC:=gs .nil .nil
theorem zui:Sd G W0 78 zqd:=gs .nil .nil
theorem zws:Xx Tryz.prog G W0 115 zcn:=zue G W0 hG
theorem zmm:Sd G W0 35 zk5:=gs (k1 (zui hG) .nil) (.cons _ _ _ (zws hG) (.nil))
theorem zuL:Sd G W0 161 zqC:=gs .nil .nil
theorem zur:Sd G W0 162 zqL:=gs .nil .nil
theorem zut:Sd G W0 163 zqb:=gs .nil .nil
theorem zuj:Sd G W0 164 zqE:=gs .nil .nil
theorem zcJ:Sd G W0 165 YV:=gs .nil .nil
theorem Y9:Sd G W0 117 zaZ:=gs (k1 (zuL hG) (k1 (zur hG) (k1 (zut hG) (k1 (zuj hG) (k1 (zcJ hG) .nil))))) .nil
theorem zgG:Sd G W0 79 zea:=gs (k1 (Y9 hG) .nil) .nil
theorem zjd:Sd G W0 80 zfu:=gs .nil .nil
theorem ztA:Sd G W0 36 zoe:=gs (k1 (zgG hG) (k1 (zjd hG) .nil)) .nil
theorem Yd:Sd G W0 37 Xk:=gs .nil .nil
theorem Y2:Sd G W0 39 XX:=gs (k1 (Yd hG) .nil) .nil
theorem Z7:Sd G W0 38 Xz:=gs (k1 (Y2 hG) .nil) .nil
theorem zgx:Xx Tryz.prog G W0 77 uo:=zfn G W0 hG
theorem zkm:Sd G W0 6 zhZ:=gs (k1 (zsg hG) (k1 (ziC hG) (k1 (zdm hG) (k1 (zrL hG) (k1 (Va hG) (k1 (xu hG) (k1 (zri hG) (k1 (zbI hG) (k1 (YY hG) (k1 (zto hG) (k1 (zgu hG) (k1 (zmm hG) (k1 (ztA hG) (k1 (Yd hG) (k1 (Z7 hG) (k1 (Y2 hG) .nil)))))))))))))))) (.cons _ _ _ (zgx hG) (.nil))
theorem zb0:Sd G W0 50 zeT:=gs (k1 (znk hG) .nil) .nil
theorem zcx:Sd G W0 86 zcs:=gs (k1 (XG hG) (k1 (zb0 hG) .nil)) .nil
theorem znR:Sd G W0 146 znn:=gs (k1 (zb0 hG) .nil) .nil
theorem UV:Sd G W0 87 zbC:=gs (k1 (XG hG) (k1 (znR hG) .nil)) .nil
theorem ziL:Sd G W0 88 zfe:=gs (k1 (zcx hG) (k1 (UV hG) .nil)) .nil
theorem zqv:Sd G W0 45 zg9:=gs (k1 (zcx hG) (k1 (UV hG) (k1 (ziL hG) .nil))) .nil
theorem zgC:Sd G W0 90 VQ:=gs .nil .nil
theorem Zj:Sd G W0 89 xy:=gs (k1 (zgC hG) .nil) .nil
theorem ztn:Sd G W0 46 zoF:=gs (k1 (Zj hG) .nil) .nil
theorem zgc:Sd G W0 91 W5:=gs .nil .nil
theorem zi7:Sd G W0 47 zfv:=gs (k1 (zci hG) (k1 (zgc hG) .nil)) .nil
theorem zrc:Sd G W0 48 zjC:=gs .nil .nil
theorem zeh:Sd G W0 9 zfH:=gs (k1 (zqv hG) (k1 (ztn hG) (k1 (zi7 hG) (k1 (zrc hG) .nil)))) .nil
theorem zrg:Sd G W0 49 zjU:=gs (k1 (zb0 hG) .nil) .nil
theorem zjl:Sd G W0 147 zfZ:=gs .nil .nil
theorem zeE:Sd G W0 92 zbT:=gs (k1 (zjl hG) .nil) .nil
theorem zfX:Sd G W0 148 zjj:=gs .nil .nil
theorem zts:Sd G W0 93 zoM:=gs (k1 (zfX hG) .nil) .nil
theorem za2:Sd G W0 51 zam:=gs (k1 (XG hG) (k1 (zcT hG) (k1 (zeE hG) (k1 (zts hG) .nil)))) .nil
theorem zcb:Sd G W0 52 zcA:=gs .nil .nil
theorem zks:Sd G W0 10 zib:=gs (k1 (zeh hG) (k1 (zrg hG) (k1 (za2 hG) (k1 (zcb hG) .nil)))) .nil
theorem zmL:Sd G W0 11 zb7:=gs .nil .nil
theorem zm3:Sd G W0 81 zdo:=gs .nil .nil
theorem zrl:Sd G W0 41 zjy:=gs (k1 (zm3 hG) .nil) .nil
theorem zpo:Sd G W0 40 zfr:=gs (k1 (zrl hG) .nil) .nil
theorem Xv:Sd G W0 217 Vi:=gs .nil .nil
theorem zcD:Sd G W0 218 zce:=gs (k1 (Y9 hG) .nil) .nil
theorem zg8:Sd G W0 205 UB:=gs (k1 (Xv hG) (k1 (zcD hG) .nil)) .nil
theorem zj6:Sd G W0 206 za3:=gs (k1 (zgG hG) (k1 (Xv hG) .nil)) .nil
theorem zgB:Sd G W0 207 VH:=gs (k1 (zjd hG) (k1 (Y9 hG) (k1 (Xv hG) .nil))) .nil
theorem ze1:Sd G W0 208 WJ:=gs (k1 (Xv hG) (k1 (zcD hG) .nil)) .nil
theorem Xm:Sd G W0 166 WQ:=gs (k1 (zg8 hG) (k1 (zj6 hG) (k1 (zgB hG) (k1 (ze1 hG) .nil)))) .nil
theorem zjo:Sd G W0 118 zaP:=gs (k1 (Xm hG) .nil) .nil
theorem zbq:Sd G W0 125 WF:=gs .nil .nil
theorem zqD:Sd G W0 209 zhn:=gs .nil .nil
theorem zpS:Sd G W0 209 zhp:=gs .nil .nil
theorem zpO:Sd G W0 209 zhG:=gs .nil .nil
theorem zqw:Sd G W0 209 zhL:=gs .nil .nil
theorem vY:Sd G W0 221 ZT:=gs (k1 (Y9 hG) .nil) .nil
theorem xX:Sd G W0 223 x8:=gs .nil .nil
theorem zdq:Sd G W0 229 Y5:=gs (k1 (vY hG) (k1 (xX hG) .nil)) .nil
theorem uH:Sd G W0 222 uG:=gs .nil .nil
theorem X1:Sd G W0 225 Yx:=gs .nil .nil
theorem wG:Sd G W0 254 wF:=gs .nil .nil
theorem zgz:Sd G W0 230 VK:=gs (k1 (vY hG) (k1 (uH hG) (k1 (X1 hG) (k1 (wG hG) .nil)))) .nil
theorem ZI:Sd G W0 226 uU:=gs (k1 (X1 hG) .nil) .nil
theorem Y1:Sd G W0 255 XP:=gs (k1 (Y9 hG) .nil) .nil
theorem zkK:Sd G W0 231 zbN:=gs (k1 (ZI hG) (k1 (Y1 hG) .nil)) .nil
theorem zez:Sd G W0 232 XY:=gs (k1 (xX hG) (k1 (wG hG) (k1 (Y1 hG) .nil))) .nil
theorem ziA:Sd G W0 233 zau:=gs (k1 (xX hG) (k1 (Y1 hG) .nil)) .nil
theorem zbF:Sd G W0 224 zbo:=gs .nil .nil
theorem ze0:Sd G W0 234 Wx:=gs (k1 (vY hG) (k1 (uH hG) (k1 (zbF hG) .nil))) .nil
theorem zg3:Sd G W0 235 Uz:=gs (k1 (vY hG) (k1 (ZI hG) (k1 (wG hG) .nil))) .nil
theorem zbl:Sd G W0 256 Wr:=gs (k1 (Y9 hG) (k1 (uH hG) .nil)) .nil
theorem zgw:Sd G W0 236 VM:=gs (k1 (zbl hG) .nil) .nil
theorem zgA:Sd G W0 237 VL:=gs (k1 (xX hG) (k1 (wG hG) (k1 (Y1 hG) .nil))) .nil
theorem zhf:Sd G W0 238 Uk:=gs (k1 (xX hG) (k1 (wG hG) (k1 (Y1 hG) .nil))) .nil
theorem zhg:Sd G W0 239 Uy:=gs (k1 (vY hG) (k1 (uH hG) .nil)) .nil
theorem zhC:Sd G W0 240 Uq:=gs (k1 (vY hG) (k1 (xX hG) (k1 (zbF hG) .nil))) .nil
theorem zgv:Sd G W0 241 VO:=gs (k1 (vY hG) (k1 (ZI hG) .nil)) .nil
theorem ze4:Sd G W0 242 Wn:=gs (k1 (wG hG) (k1 (zbl hG) .nil)) .nil
theorem ziO:Sd G W0 167 zgn:=gs (k2 (zqD hG) (k2 (zpS hG) (k2 (zpO hG) (k2 (zqw hG) (.skip _ _ (k1 (zdq hG) (k1 (zgz hG) (k1 (zkK hG) (k1 (zez hG) (k1 (ziA hG) (k1 (ze0 hG) (k1 (zg3 hG) (k1 (zgw hG) (k1 (zgA hG) (k1 (zhf hG) (k1 (zhg hG) (k1 (zhC hG) (k1 (zgv hG) (k1 (ze4 hG) .nil))))))))))))))))))) .nil
theorem zeL:Sd G W0 169 zbO:=gs (k1 (zbI hG) (k1 (YY hG) .nil)) .nil
theorem Vp:Sd G W0 210 VX:=gs .nil .nil
theorem zda:Sd G W0 171 U0:=gs (k1 (Z7 hG) (k1 (Vp hG) .nil)) .nil
theorem zjw:Sd G W0 168 za7:=gs (k1 (Yd hG) (k1 (zeL hG) (k1 (zda hG) .nil))) .nil
theorem zkG:Sd G W0 119 zbL:=gs (k1 (zbq hG) (k1 (ziO hG) (k1 (zjw hG) .nil))) .nil
theorem ziX:Sd G W0 120 zag:=gs (k1 (zeL hG) .nil) .nil
theorem ut:Sd G W0 170 vu:=gs .nil .nil
theorem zj9:Sd G W0 121 zaV:=gs (k1 (Y2 hG) (k1 (ut hG) (k1 (zda hG) .nil))) .nil
theorem zeJ:Sd G W0 124 zb5:=gs .nil .nil
theorem zdf:Sd G W0 211 UZ:=gs .nil .nil
theorem zeo:Sd G W0 172 zgl:=gs (k1 (zdf hG) .nil) .nil
theorem zco:Sd G W0 173 zca:=gs .nil .nil
theorem zjT:Sd G W0 122 zaR:=gs (k1 (zeJ hG) (k1 (zeo hG) (k1 (zco hG) .nil))) .nil
theorem ze6:Sd G W0 174 Ww:=gs .nil .nil
theorem ZL:Sd G W0 212 uQ:=gs (k1 (Z7 hG) (k1 (Y2 hG) (k1 (Vp hG) .nil))) .nil
theorem zhr:Sd G W0 175 Um:=gs (k1 (zbI hG) (k1 (YY hG) (k1 (zcx hG) (k1 (ZL hG) .nil)))) .nil
theorem zgR:Sd G W0 176 Up:=gs .nil .nil
theorem zhb:Sd G W0 177 UK:=gs (k1 (ziO hG) (k1 (ZL hG) .nil)) .nil
theorem zhT:Sd G W0 178 Un:=gs (k1 (ZL hG) .nil) .nil
theorem zhI:Sd G W0 179 Ul:=gs (k1 (Xm hG) (k1 (ZL hG) .nil)) .nil
theorem zhW:Sd G W0 180 UM:=gs (k1 (Yd hG) (k1 (Z7 hG) (k1 (ut hG) (k1 (Vp hG) .nil)))) .nil
theorem ze2:Sd G W0 181 Wm:=gs (k1 (Xm hG) .nil) .nil
theorem zkc:Sd G W0 123 zif:=gs (k1 (ze6 hG) (k1 (zhr hG) (k1 (zgR hG) (k1 (zhb hG) (k1 (zhT hG) (k1 (zhI hG) (k1 (zhW hG) (k1 (ze2 hG) .nil)))))))) .nil
theorem Xl:Sd G W0 182 Yh:=gs .nil .nil
theorem zpN:Sd G W0 184 zf8:=gs .nil .nil
theorem Ug:Sd G W0 183 un:=gs (k1 (zpN hG) .nil) .nil
theorem zgJ:Sd G W0 126 zee:=gs (k1 (Xl hG) (k1 (Ug hG) .nil)) .nil
theorem zjE:Sd G W0 82 zaU:=gs (k1 (UV hG) (k1 (zjo hG) (k1 (zkG hG) (k1 (ziX hG) (k1 (zj9 hG) (k1 (zjT hG) (k1 (zkc hG) (k1 (zeJ hG) (k1 (zbq hG) (k1 (zgJ hG) .nil)))))))))) .nil
theorem Vv:Sd G W0 83 vT:=gs .nil .nil
theorem zrd:Sd G W0 42 zjQ:=gs (k1 (zjE hG) (k1 (Vv hG) .nil)) .nil
theorem uz:Sd G W0 185 u4:=gs .nil .nil
theorem ZM:Sd G W0 189 uR:=gs .nil .nil
theorem XU:Sd G W0 186 YC:=gs (k1 (xu hG) (k1 (ZM hG) .nil)) .nil
theorem zg5:Sd G W0 127 UD:=gs (k1 (uz hG) (k1 (XU hG) .nil)) .nil
theorem zg7:Sd G W0 128 Ur:=gs (k1 (zco hG) .nil) .nil
theorem zjr:Sd G W0 129 zaM:=gs (k1 (xu hG) .nil) .nil
theorem UO:Sd G W0 187 YW:=gs (k1 (zkc hG) .nil) .nil
theorem zg1:Sd G W0 130 UG:=gs (k1 (UO hG) .nil) .nil
theorem zb8:Sd G W0 188 VY:=gs (k1 (zeo hG) (k1 (uz hG) .nil)) .nil
theorem zi9:Sd G W0 131 U6:=gs (k1 (uz hG) (k1 (XU hG) (k1 (zb8 hG) .nil))) .nil
theorem zjY:Sd G W0 132 zaY:=gs (k1 (uz hG) (k1 (zb8 hG) (k1 (ZM hG) .nil))) .nil
theorem zgN:Sd G W0 133 Uw:=gs (k1 (znR hG) .nil) .nil
theorem ze5:Sd G W0 134 WA:=gs (k1 (xu hG) .nil) .nil
theorem zvk:Sd G W0 190 zpW:=gs (k1 (xu hG) (k1 (ut hG) (k1 (zdf hG) .nil))) .nil
theorem zhy:Sd G W0 135 UA:=gs (k1 (uz hG) (k1 (ZM hG) (k1 (zvk hG) .nil))) .nil
theorem zoL:Sd G W0 214 zeu:=gs .nil .nil
theorem VD:Sd G W0 183 ud:=gs (k1 (zoL hG) .nil) .nil
theorem zaA:Sd G W0 216 Xf:=gs (k1 (Xl hG) .nil) .nil
theorem zjc:Sd G W0 213 zgq:=gs (k1 (zaA hG) .nil) .nil
theorem zqS:Sd G W0 191 zgU:=gs (k1 (VD hG) (k1 (zjc hG) .nil)) .nil
theorem zhv:Sd G W0 136 UC:=gs (k1 (zi7 hG) (k1 (ziL hG) (k1 (uz hG) (k1 (XU hG) (k1 (ZM hG) (k1 (zqS hG) .nil)))))) .nil
theorem zpI:Sd G W0 215 zgf:=gs .nil .nil
theorem V4:Sd G W0 183 ur:=gs (k1 (zpI hG) .nil) .nil
theorem zrk:Sd G W0 192 zjS:=gs (k1 (Xl hG) (k1 (V4 hG) .nil)) .nil
theorem zqy:Sd G W0 193 zhV:=gs (k1 (zjc hG) (k1 (zaA hG) .nil)) .nil
theorem zaK:Sd G W0 194 XI:=gs (k1 (Z7 hG) (k1 (Vp hG) .nil)) .nil
theorem zjm:Sd G W0 137 zaC:=gs (k1 (Yd hG) (k1 (zrk hG) (k1 (zqy hG) (k1 (zaK hG) .nil)))) .nil
theorem zjx:Sd G W0 138 za6:=gs (k1 (Xm hG) .nil) .nil
theorem zgT:Sd G W0 139 UL:=gs (k1 (Y2 hG) (k1 (ut hG) (k1 (zaK hG) .nil))) .nil
theorem ziZ:Sd G W0 140 zaz:=gs (k1 (Xm hG) .nil) .nil
theorem zhq:Sd G W0 141 Uv:=gs .nil .nil
theorem zdz:Sd G W0 195 za1:=gs .nil .nil
theorem ziV:Sd G W0 142 zaE:=gs (k1 (zeo hG) (k1 (zco hG) (k1 (zdz hG) .nil))) .nil
theorem zju:Sd G W0 143 zaL:=gs (k1 (UO hG) (k1 (zdz hG) .nil)) .nil
theorem zgd:Sd G W0 144 W9:=gs (k1 (UV hG) (k1 (zgJ hG) .nil)) .nil
theorem zfo:Sd G W0 145 W2:=gs .nil .nil
theorem zi0:Sd G W0 84 U8:=gs (k1 (zg5 hG) (k1 (zg7 hG) (k1 (zjr hG) (k1 (zg1 hG) (k1 (zi9 hG) (k1 (zjY hG) (k1 (zgN hG) (k1 (ze5 hG) (k1 (zhy hG) (k1 (zhv hG) (k1 (zjm hG) (k1 (zjx hG) (k1 (zgT hG) (k1 (ziZ hG) (k1 (zhq hG) (k1 (ziV hG) (k1 (zju hG) (k1 (zgd hG) (k1 (zfo hG) .nil))))))))))))))))))) .nil
theorem WO:Sd G W0 85 vD:=gs .nil .nil
theorem zpX:Sd G W0 43 zhs:=gs (k1 (zi0 hG) (k1 (WO hG) .nil)) .nil
theorem zgK:Sd G W0 8 zeb:=gs (k1 (zpo hG) (k1 (zrd hG) (k1 (zpX hG) (k1 (ziT hG) .nil)))) .nil
theorem zrQ:Sd G W0 12 zlM:=gs (k1 (zgK hG) .nil) .nil
theorem zuK:Sd G W0 56 zqQ:=gs (k1 (zdm hG) (k1 (zcT hG) .nil)) .nil
theorem zu8:Sd G W0 97 zp7:=gs .nil .nil
theorem zdW:Sd G W0 155 XC:=gs (k1 (zC5 hG) .nil) .nil
theorem zwd:Sd G W0 98 zr6:=gs (k1 (zq1 hG) (k1 (zdW hG) .nil)) .nil
theorem zsC:Sd G W0 196 zmu:=gs (k1 (Xv hG) (k1 (zcD hG) .nil)) .nil
theorem zer:Sd G W0 197 zfJ:=gs (k1 (zq1 hG) .nil) .nil
theorem zsJ:Sd G W0 151 zmI:=gs (k1 (Yd hG) (k1 (Z7 hG) (k1 (zsC hG) (k1 (zer hG) .nil)))) .nil
theorem zrs:Sd G W0 198 zj2:=gs (k1 (YY hG) (k1 (Y9 hG) .nil)) .nil
theorem zjh:Sd G W0 200 zgm:=gs (k1 (zfX hG) .nil) .nil
theorem zrh:Sd G W0 201 zjs:=gs (k1 (vY hG) (k1 (uH hG) (k1 (xX hG) (k1 (zbF hG) (k1 (X1 hG) (k1 (ZI hG) .nil)))))) .nil
theorem zrm:Sd G W0 152 zjD:=gs (k1 (xu hG) (k1 (YY hG) (k1 (zer hG) (k1 (zrs hG) (k1 (zt1 hG) (k1 (zjh hG) (k1 (zrh hG) .nil))))))) .nil
theorem zqP:Sd G W0 153 zhz:=gs (k1 (xu hG) (k1 (zjl hG) (k1 (zer hG) (k1 (zt1 hG) (k1 (zjh hG) .nil))))) .nil
theorem zw1:Xx Tryz.prog G W0 150 zcr:=by
 obtain ⟨c,hc⟩:=zMv.1 zIn;exact zp9 (Cg:=Xb []) rfl zrR (fun f s hs=>Oks.at (k1 (zsJ hG) (k1 (zrm hG) (k1 (zqP hG) .nil))) f s hs) rfl zwy (fun g it h=>by cases h) zIK zJY hc zcr (zLj (by kernel_rfl)) rfl zuI
theorem zdp:Sd G W0 57 zd2:=gs (k1 (zu8 hG) (k1 (zwd hG) .nil)) (.cons _ _ _ (zw1 hG) (.nil))
theorem zkq:Sd G W0 15 zic:=gs (k1 (zcb hG) (k1 (zuK hG) (k1 (zdp hG) .nil))) .nil
theorem ztv:Sd G W0 99 zou:=gs (k1 (zfX hG) .nil) .nil
theorem ztt:Sd G W0 58 zop:=gs (k1 (zeE hG) (k1 (ztv hG) .nil)) .nil
theorem zgF:Sd G W0 16 zd8:=gs (k1 (zdp hG) (k1 (ztt hG) .nil)) .nil
theorem zok:Sd G W0 100 zet:=gs (k1 (XG hG) .nil) .nil
theorem zqa:Sd G W0 102 zgX:=gs .nil .nil
theorem zds:Sd G W0 101 Xd:=gs (k1 (zmm hG) (k1 (zb0 hG) (k1 (X7 hG) (k1 (zqa hG) .nil)))) .nil
theorem zcl:Sd G W0 59 zcB:=gs (k1 (zok hG) (k1 (zds hG) .nil)) .nil
theorem zkf:Sd G W0 61 zh7:=gs (k1 (ziC hG) (k1 (zcl hG) .nil)) .nil
theorem zkl:Sd G W0 17 zh9:=gs (k1 (za2 hG) (k1 (zcb hG) (k1 (zcl hG) (k1 (Wb hG) (k1 (zkf hG) .nil))))) .nil
theorem znT:Sd G W0 55 znZ:=gs (k1 (X7 hG) .nil) .nil
theorem zdk:Sd G W0 14 zdP:=gs (k1 (X7 hG) (k1 (znT hG) .nil)) .nil
theorem zsF:Sd G W0 62 zlr:=gs (k1 (X7 hG) (k1 (Wb hG) .nil)) .nil
theorem zgI:Sd G W0 18 zd5:=gs (k1 (zdk hG) (k1 (Wb hG) (k1 (zkf hG) (k1 (zsF hG) .nil)))) .nil
theorem zqx:Sd G W0 64 zha:=gs .nil .nil
theorem zrT:Sd G W0 63 zmd:=gs .nil .nil
theorem Wl:Sd G W0 103 vk:=gs (k1 (zrT hG) .nil) .nil
theorem XD:Sd G W0 65 wR:=gs (k1 (Wl hG) .nil) .nil
theorem zmM:Sd G W0 19 zk7:=gs (k1 (zdk hG) (k1 (zdm hG) (k1 (znT hG) (k1 (zqx hG) (k1 (XD hG) .nil))))) .nil
theorem zpR:Sd G W0 104 zhO:=gs .nil .nil
theorem ZO:Sd G W0 156 xI:=gs (k1 (zpR hG) .nil) .nil
theorem Zn:Sd G W0 106 xA:=gs (k1 (ZO hG) .nil) .nil
theorem zqO:Sd G W0 105 zhM:=gs .nil .nil
theorem Zu:Sd G W0 157 xD:=gs (k1 (zqO hG) .nil) .nil
theorem Zg:Sd G W0 107 xt:=gs (k1 (Zu hG) .nil) .nil
theorem zsK:Sd G W0 66 zlz:=gs (k1 (zdp hG) (k1 (Zn hG) (k1 (Zg hG) .nil))) .nil
theorem ztN:Sd G W0 108 zoK:=gs (k1 (zcT hG) .nil) .nil
theorem ztH:Sd G W0 67 zoa:=gs (k1 (zcl hG) (k1 (ztN hG) .nil)) .nil
theorem zkn:Sd G W0 20 zia:=gs (k1 (za2 hG) (k1 (Wb hG) (k1 (zsK hG) (k1 (ztH hG) .nil)))) .nil
theorem ztF:Sd G W0 13 zoz:=gs (k1 (zkq hG) (k1 (zgF hG) (k1 (zkl hG) (k1 (zgI hG) (k1 (zmM hG) (k1 (zkn hG) (k1 (zci hG) .nil))))))) .nil
theorem ziF:Sd G W0 4 U5:=gs (k1 (zkm hG) (k1 (zeh hG) (k1 (zks hG) (k1 (zmL hG) (k1 (zrQ hG) (k1 (ztF hG) (k1 (zdk hG) (k1 (zkq hG) (k1 (zgF hG) (k1 (zkl hG) (k1 (zgI hG) (k1 (zmM hG) (k1 (zkn hG) .nil))))))))))))) .nil
theorem W6:Sd G W0 21 ZV:=gs .nil .nil
theorem zfq:Sd G W0 23 WV:=gs (k1 (W6 hG) .nil) .nil
theorem znc:Sd G W0 5 zdi:=gs (k1 (W6 hG) (k1 (XG hG) (k1 (zfq hG) .nil))) .nil
theorem zmK:Sd G W0 7 zcv:=gs .nil .nil
theorem zit:Sd G W0 3 zan:=gs (k1 (ziF hG) (k1 (znc hG) (k1 (zkm hG) (k1 (zmK hG) (k1 (zgK hG) (k1 (zeh hG) (k1 (zks hG) .nil))))))) .nil
end Go.Pe.G
