/- Own work of this seat: G2i, GH, GW, GX, G3. -/
import Derived.Test.YtbjeofbgalopeaaGreatDoorTMGa
import Derived.Tactics
import Derived.Tactics2
import Derived.Shelf.SlicesE.DeleteFunc
import Derived.Shelf.Spec.SlicesGrow
set_option linter.unusedVariables false
set_option linter.unusedSectionVars false
set_option linter.unusedSimpArgs false
set_option linter.unnecessarySimpa false
set_option linter.deprecated false
set_option maxRecDepth 100000
open Array renaming getElem?_eq_some_iff → zK1, getElem?_push → zMa, toArray_toList → zMh
open Bool renaming and_eq_true → zKB
open Int renaming toNat_natCast → zLi
open List renaming getElem?_eq_getElem → zKC, getD_eq_getElem?_getD → zKD, append_nil → zKE, append_assoc → zKI, nil_append → zKL, length_filter_le → zLO, length_drop → zLS, drop_eq_nil_of_le → zMb, take_of_length_le → zMo, getElem_append_left → zMt
open Nat renaming le_refl → zKF, lt_of_lt_of_le → zKW, le_of_ble_eq_true → zLe, add_zero → zLk, mul_one → zLv, zero_le → zLE, le_trans → zLI
open Option renaming bind_some → zKA, bind_eq_some_iff → zKM, map_eq_some_iff → zKQ, map_some → zLD, isSome_iff_exists → zMr
namespace Go.Pe.G
open Go.Pe Go.Proofs
theorem zKj:Tryz.prog.funcs[80]? =some Tryz.f80:=by kernel_rfl
theorem zJl:Tryz.f80.body.isSome=true:=by kernel_rfl
theorem zJo:Zd Tryz.prog 80=true:=by kernel_rfl
theorem zJ6:Tryz.prog.funcs[116]? =some Tryz.f116:=by kernel_rfl
theorem zI1:Tryz.f116.body.isSome=true:=by kernel_rfl
theorem zIT:Zd Tryz.prog 116=true:=by kernel_rfl
theorem zKe:Tryz.prog.funcs[150]? =some Tryz.f150:=by kernel_rfl
theorem zIc:Tryz.f150.body.isSome=true:=by kernel_rfl
theorem zH7:Zd Tryz.prog 150=true:=by kernel_rfl
theorem zsq (ys:List Int) (s1:Int) (s2:Int) (s3:BitVec 64):zbU ys (s1,s2,s3,()) =
 bif !(decide (s3=0#64)) then
 (qTZ s3).bind fun y1 =>
 (Xu ys s2 (w64 (y1.1+1))).bind fun _ =>
 some (.again (s1,s2+1,s3&&&(s3-1#64),()))
 else
 some (.brk (s1,s2,())):=by kernel_rfl
theorem zwW (n:Int) (ys:List Int) (a1:BitVec 64):zpg (zcE ys) Tryz.f116 zpC n ((a1,()):(BitVec 64)×Unit) =
 (yc (zbU ys) (n,0,a1,())).bind fun st=>match st with
  | .again _=>none
  | .brk y1 =>
  some y1.2.1
  | .ret y1 =>
  some y1.2.1:=by kernel_rfl
theorem WZ (ys:List (List Int)) (s1:Int) (s2:Int) (s3:Int) (s4:List Int) (s5:Int):uX ys (s1,s2,s3,s4,s5,()) =
 bif decide (s3<((s4.length:Int))) then
 (cut s4 s3 ((s4.length:Int))).bind fun l1 =>
 bif decide (s3=0)&&decide ((w64 (s3+(bif decide (((l1.length:Int))<s5) then ((l1.length:Int)) else s5)))=0)&&decide ((w64 (s3+(bif decide (((l1.length:Int))<s5) then ((l1.length:Int)) else s5)))=0) then
  (Xu ys s2 ([]:List Int)).bind fun _ =>
  some (.again (s1,s2+1,w64 (s3+s5),s4,s5,()))
 else
  bif decide (s3=0)&&decide ((w64 (s3+(bif decide (((l1.length:Int))<s5) then ((l1.length:Int)) else s5)))=((s4.length:Int)))&&decide ((w64 (s3+(bif decide (((l1.length:Int))<s5) then ((l1.length:Int)) else s5)))=((s4.length:Int))) then
  (Xu ys s2 s4).bind fun _ =>
  some (.again (s1,s2+1,w64 (s3+s5),s4,s5,()))
  else
  bif decide ((w64 (s3+(bif decide (((l1.length:Int))<s5) then ((l1.length:Int)) else s5)))=(w64 (s3+(bif decide (((l1.length:Int))<s5) then ((l1.length:Int)) else s5)))) then
   (cut s4 s3 (w64 (s3+(bif decide (((l1.length:Int))<s5) then ((l1.length:Int)) else s5)))).bind fun l2 =>
   (Xu ys s2 l2).bind fun _ =>
   some (.again (s1,s2+1,w64 (s3+s5),s4,s5,()))
  else
   none
 else
 some (.brk (s1,s2,())):=by kernel_rfl
theorem zgF (n:Int) (ys:List (List Int)) (a1:List Int) (a2:Int):zpg (Zl ys) Tryz.f80 zav n ((a1,a2,()):(List Int)×Int×Unit) =
 (yc (uX ys) (n,0,0,a1,a2,())).bind fun st=>match st with
  | .again _=>none
  | .brk y1 =>
  some y1.2.1
  | .ret y1 =>
  some y1.2.1:=by kernel_rfl
theorem ziL (ys:List (List Int)) (s1:Int) (s2:Int) (s3:Int) (s4:Int) (s5:za):Uc ys (s1,s2,s3,s4,s5,()) =
 bif decide (s4<s3) then
 (zd6 s5 (w64 (s4+1))).bind fun y1 =>
 (Xu ys s2 y1.1).bind fun _ =>
 some (.again (s1,s2+1,s3,w64 (s4+1),s5,()))
 else
 some (.brk (s1,s2,s5,())):=by kernel_rfl
theorem ziF (ys:List (List Int)) (s1:Int) (s2:Int) (s3:Int) (s4:Int) (s5:za):zbN ys (s1,s2,s3,s4,s5,()) =
 bif decide (s4<s3) then
 (zcK s5 (w64 (s4+1))).bind fun y1 =>
 (Xu ys s2 y1.1).bind fun _ =>
 some (.again (s1,s2+1,s3,w64 (s4+1),s5,()))
 else
 some (.brk (s1,s2,())):=by kernel_rfl
theorem zvv (n:Int) (ys:List (List Int)) (a1:Int) (a2:Int) (a3:Int) (a4:Int) (a5:Int) (a6:Int) (a7:Int) (a8:Int) (a9:Int) (a10:List (List Int)) (a11:BitVec 64) (a12:List (List Int)) (a13:List (List zE)) (a14:List zk) (a15:Int) (a16:List (List Int)) (a17:List (BitVec 64)) (a18:List (List Int)) (a19:BitVec 64) (a20:BitVec 64) (a21:Int) (a22:Int) (a23:Bool) (a24:Bool) (a25:Int) (a26:List Int) (a27:Int) (a28:Int) (a29:Int) (a30:List Int) (a31:List zj) (a32:List ze) (a33:Int) (a34:Int):zpg (Y1 ys) Tryz.f150 zcL n ((a1,a2,a3,a4,a5,a6,a7,a8,a9,a10,a11,a12,a13,a14,a15,a16,a17,a18,a19,a20,a21,a22,a23,a24,a25,a26,a27,a28,a29,a30,a31,a32,a33,a34,()):Int×Int×Int×Int×Int×Int×Int×Int×Int×(List (List Int))×(BitVec 64)×(List (List Int))×(List (List zE))×(List zk)×Int×(List (List Int))×(List (BitVec 64))×(List (List Int))×(BitVec 64)×(BitVec 64)×Int×Int×Bool×Bool×Int×(List Int)×Int×Int×Int×(List Int)×(List zj)×(List ze)×Int×Int×Unit) =
 (zcA (za.mk (zd.mk a1 a2 a3 a4 a5 a6 a7 a8 (zw.mk a9 a10) a11 a12 a13 a14) (zw.mk a15 a16) a17 a18 (zo.mk a19 a20) a21 a22 a23 a24 a25 a26 (zy.mk a27 a28 a29 a30) a31 a32 (zN.mk a33 a34))).bind fun y1 =>
 (Xu ys 0 y1.1).bind fun _ =>
 (yc (Uc ys) (n,0+1,(a31.length:Int),0,za.mk (zd.mk a1 a2 a3 a4 a5 a6 a7 a8 (zw.mk a9 a10) a11 a12 a13 a14) (zw.mk a15 a16) a17 a18 (zo.mk a19 a20) a21 a22 a23 a24 a25 a26 (zy.mk a27 a28 a29 a30) a31 a32 (zN.mk a33 a34),())).bind fun st=>match st with
  | .again _=>none
  | .brk y2 =>
  (yc (zbN ys) (y2.1,y2.2.1,(y2.2.2.1.Ms.length:Int),0,y2.2.2.1,())).bind fun st=>match st with
   | .again _=>none
   | .brk y3 =>
   some y3.2.1
   | .ret y3 =>
   some y3.2.1
  | .ret y2 =>
  some y2.2.1:=by kernel_rfl
end Go.Pe.G
namespace Go.Pe.G
open Go.Pe Go.Proofs
theorem ziT {A B D:Type}(g:A->Option (yN A B D)) {o:yN Unit B D}:∀(k m:Nat) (x:A),yY g k x=some o->k<=m->yY g m x=some o
 | 0,m,x,h,_=>by cases h
 | k+1,0,x,h,hm=>by omega
 | k+1,m+1,x,h,hm=>by
  simp only [yY,zKM] at h ⊢;obtain ⟨s,h1,h2⟩:=h;refine ⟨s,h1,?_⟩;cases s with
  | again y=>exact ziT g k m y h2 (by omega)
  | brk b=>exact h2
  | ret c=>exact h2
theorem ziU {α:Type}(pre post:List α) (z:α):Xu (pre++z::post) (pre.length:Int) z=some ():=by
 unfold Xu;rw [zb];refine ⟨by omega,?_⟩;simp
theorem zkq (n:Int) (ys:List Int):∀(f:Nat) (s:BitVec 64) (l pre:List Int),zat f s=some l->ys=pre++l->yY (zbU ys) f (n,(pre.length:Int),s,())=some (.brk (n,(ys.length:Int),()))
 | 0,s,l,pre,h,_=>by cases h
 | f+1,s,l,pre,h,e=>by
  simp only [zat] at h;simp only [yY,zsq];cases hz:decide (s=0#64) with
  | true =>
   simp only [hz,zt,Option.some.injEq] at h;subst h;simp only [zKE] at e;subst e;rfl
  | false =>
   simp only [hz,zM,zKQ] at h;obtain ⟨l',h1,rfl⟩:=h;have hn:Xu ys (pre.length:Int) (w64 (tz s+1))=some ():=by rw [e];exact ziU pre l' _
   simp only [Bool.not_false,zt,zJu,zKA,hn];have:=zkq n ys f (s&&&(s-1#64)) l' (pre++[w64 (tz s+1)]) h1 (by rw [e];simp);simpa using this
theorem zu9 (G:Nat->Prop) (W0:World) (hG:zoT G W0):Xl Tryz.prog G W0 116 zb7:=by
 obtain ⟨c,hc⟩:=zMr.1 zI1;refine zqn (Cg:=zcE []) rfl zsk (fun f s hs=>Oks.at (.cons _ _ _ _ zIP (zFs hG) (.skip _ _ .nil)) f s hs) rfl zwF (fun g it h=>by cases h) zIT zJ6 hc zb7 (zLe (by kernel_rfl)) rfl ?_;rintro n ⟨a,⟨⟩⟩ ys h;have h:zat 66 a=some ys:=h;have e:=zwW n ys a;have k:=ziT _ 66 vV _ (zkq n ys 66 a ys [] h rfl) (by decide);refine Eq.trans e ?_;have k':yY (zbU ys) vV (n,0,a,())=some (.brk (n,(ys.length:Int),())):=k;rw [Y3,k'];rfl
theorem zwu {a:Int}(h: -9223372036854775808<=a) (h2:a<9223372036854775808):w64 a=a:=by
 rw [zte];omega
theorem ze6 (n:Int) (ys:List (List Int)) (l:List Int) (sz:Nat) (h1:1<=sz) (h2:sz<1000000) (h3:l.length<1000000):∀(f p:Nat) (pre:List (List Int)),(l.drop p).length<=f->ys=pre++ul sz f (l.drop p)->p<2000000 ->
  yY (uX ys) (f+1) (n,(pre.length:Int),(p:Int),l,(sz:Int),())=some (.brk (n,(ys.length:Int),())):=by
 intro f
 induction f with
 | zero =>
  intro p pre hf e hp;simp only [yY,WZ];simp only [zLS] at hf;have: ¬(p:Int)<(l.length:Int):=by omega
  simp only [this,decide_false,zM,zKA];simp only [ul,zKE] at e;rw [e]
 | succ f ih =>
  intro p pre hf e hp;rw [yY,WZ];by_cases hlt:p<l.length
  .have hlt':(p:Int)<(l.length:Int):=by omega
   have hcut:cut l (p:Int) (l.length:Int)=some (l.drop p):=by
    unfold cut;have:(decide (0<=(p:Int))&&decide ((p:Int)<=(l.length:Int))&&decide ((l.length:Int)<=(l.length:Int)))=true:=by simp;omega
    simp only [this,zt];simp
   obtain ⟨x,r,hxr⟩:∃x r,l.drop p=x::r:=by
    cases hd:l.drop p with
    | nil=>have:=congrArg List.length hd;simp at this;omega
    | cons x r=>exact ⟨x,r,rfl⟩
   have hch:ul sz (f+1) (l.drop p)=(l.drop p).take sz::ul sz f (l.drop (p+sz)):=by
    rw [hxr];simp only [ul];rw [<-hxr,List.drop_drop]
   have hm:∃m:Nat,(bif decide (((l.drop p).length:Int)<(sz:Int)) then (((l.drop p).length:Int)) else (sz:Int))=(m:Int)/\m=min sz (l.length-p):=by
    simp only [zLS];by_cases hs:((l.length-p:Nat):Int)<(sz:Int)
    .exact ⟨l.length-p,by simp only [hs,decide_true,zt],by omega⟩
    .exact ⟨sz,by simp only [hs,decide_false,zM],by omega⟩
   obtain ⟨m,hm1,hm2⟩:=hm;have hw:w64 ((p:Int)+(m:Int))=((p+m:Nat):Int):=by rw [zwu (by omega) (by omega)];omega
   have hw2:w64 ((p:Int)+(sz:Int))=((p+sz:Nat):Int):=by rw [zwu (by omega) (by omega)];omega
   have hne: ¬((p+m:Nat):Int)=0:=by omega
   simp only [hlt',decide_true,zt,hcut,zKA,hm1,hw,hw2,hne,decide_false,Bool.and_false,zM];have hn:Xu ys (pre.length:Int) ((l.drop p).take sz)=some ():=by rw [e,hch];exact ziU pre _ _
   have hcut2:cut l (p:Int) ((p+m:Nat):Int)=some ((l.drop p).take sz):=by
    unfold cut;have:(decide (0<=(p:Int))&&decide ((p:Int)<=((p+m:Nat):Int))&&decide (((p+m:Nat):Int)<=(l.length:Int)))=true:=by simp;omega
    simp only [this,zt];refine congrArg some ?_;simp only [zLi];rw [List.drop_take,Nat.add_sub_cancel_left,hm2];by_cases hs:sz<=l.length-p
    .rw [Nat.min_eq_left hs]
    .rw [Nat.min_eq_right (by omega),zMo (l:=l.drop p) (by simp),zMo (l:=l.drop p) (by simp;omega)]
   have hnext:=ih (p+sz) (pre++[(l.drop p).take sz]) (by simp only [zLS] at hf ⊢;omega) (by rw [e,hch];simp) (by omega);have hlen:((pre++[(l.drop p).take sz]).length:Int)=(pre.length:Int)+1:=by simp
   rw [hlen] at hnext;cases hfull:(decide ((p:Int)=0)&&decide (((p+m:Nat):Int)=(l.length:Int))&&decide (((p+m:Nat):Int)=(l.length:Int))) with
   | true =>
    simp only [zt];have hl:l=(l.drop p).take sz:= ?_
    .rw [<-hl] at hn;rw [hn];exact hnext
    simp only [zKB,decide_eq_true_eq] at hfull;obtain ⟨⟨hp0,hpl⟩,_⟩:=hfull;have hp00:p=0:=by omega
    rw [hp00,List.drop_zero,zMo (by omega)]
   | false =>
    simp only [zM,hcut2,zKA,decide_true,zt];rw [hn];exact hnext
  .have hnl: ¬(p:Int)<(l.length:Int):=by omega
   have hd:l.drop p=[]:=zMb (by omega);simp only [hnl,decide_false,zM,zKA];rw [hd] at e;simp only [ul,zKE] at e;rw [e]
theorem zfA (n:Int) (ys:List (List Int)) (l:List Int) (sz:Int) (h:zl4 l sz=some ys):yY (uX ys) vV (n,0,0,l,sz,())=some (.brk (n,(ys.length:Int),())):=by
 unfold zl4 at h;cases hc:(decide (1<=sz)&&decide (sz<1000000)&&decide ((l.length:Int)<1000000)) with
 | false=>simp [hc] at h
 | true =>
  simp only [hc,zt] at h;injection h with h;simp only [zKB,decide_eq_true_eq] at hc;obtain ⟨⟨c1,c2⟩,c3⟩:=hc;have k:=ziT _ (l.length+1) vV _ (ze6 n ys l sz.toNat (by omega) (by omega) (by omega) l.length 0 [] (by simp) (by simpa using h.symm) (by omega)) (by unfold vV;omega);have hs:((sz.toNat:Nat):Int)=sz:=by omega
  rw [hs] at k;exact k
theorem zfa (G:Nat->Prop) (W0:World) (hG:zoT G W0):Xl Tryz.prog G W0 80 uo:=by
 obtain ⟨c,hc⟩:=zMr.1 zJl;refine zqn (Cg:=Zl []) rfl zsk (fun f s hs=>Oks.at .nil f s hs) rfl zwF (fun g it h=>by cases h) zJo zKj hc uo (zLe (by kernel_rfl)) rfl (fun n x ys h=>?_);refine Eq.trans (zgF n ys x.1 x.2.1) ?_;rw [Y3,zfA n ys x.1 x.2.1 h];rfl
end Go.Pe.G
namespace Go.Pe.G
open Go.Pe Go.Proofs
theorem zEc (bk off cap:Nat) (l:List Int) (w:World) (hH:Go.Sort.Holds (Value.int .i64) w bk off l.toArray) (hb:bk<w.heap.size) (hlen:l.length<4294967296) :
  Calls Tryz.prog 203 #[.slice (some ⟨bk,off,none⟩) l.length cap] w fun e w'=>e= .returned (.tuple #[])/\∃n os,w'=Go.Sort.grow (Go.Sort.putRow (Value.int .i64) (Go.Sort.ahead w n) bk off (wI l).toArray) os:=by
 have hsz:l.toArray.size=l.length:=by simp
 have hlog:Go.Sort.bitsLen l.length<4611686018427387904:=by
  unfold Go.Sort.bitsLen;split
  .omega
  .rename_i h0;have:=(Nat.log2_lt h0 (k:=32)).2 (by omega);omega
 have hdep:=Go.Sort.pdqDepth_le_59 Go.Sort.ltInt l.toArray 0 l.toArray.size (Go.Sort.bitsLen l.toArray.size) true true (by rw [hsz];omega);have hs:Go.Sort.pdq Go.Sort.ltInt l.toArray 0 l.toArray.size (Go.Sort.bitsLen l.toArray.size) true true=(wI l).toArray:=Go.Proofs.Any.sort_int_eqD l;have hP:Calls Tryz.prog 227 #[.slice (some ⟨bk,off,none⟩) l.length cap,.int .i64 0,.int .i64 (l.length:Int),.int .i64 ((Go.Sort.bitsLen l.length:Nat):Int)] w fun e w'=>e= .returned (.tuple #[])/\∃n os,w'=Go.Sort.grow (Go.Sort.putRow (Value.int .i64) (Go.Sort.ahead w n) bk off (wI l).toArray) os:=by
  have hk:=Go.calls_of_every_depth fun D=>Go.Proofs.Any.pdqWalkInInt Go.Proofs.laysPd D 65 bk off cap 0 l.toArray.size (Go.Sort.bitsLen l.toArray.size) l.toArray w (by omega) hH hb (zLE _) (zKF _) (by rw [hsz];omega) (by rw [hsz];exact hlog) (Or.inl rfl);rw [hs,hsz] at hk;exact hk
 have hL:Calls Tryz.prog 228 #[.int .u64 (l.length:Int)] w fun e w'=>e= .returned (.int .i64 ((Go.Sort.bitsLen l.length:Nat):Int))/\w'=w:=by
  have hk:=Go.calls_of_every_depth fun D=>Go.Proofs.AnyS.bits_LenIn Go.Proofs.laysLn D (l.length:Int) w (by omega) (by omega);rw [zLi,Go.Proofs.bitLen_eq _ (by omega)] at hk;exact hk
 clear hH hdep hs hsz
 go_enter Tryz.func203,Tryz.ntmps203
 go_wp2_with (first
  | (go_at_call 228;refine hL.mono ?_;rintro e w' ⟨rfl,rfl⟩)
  | (go_at_call 227;refine hP.mono ?_;rintro e w' ⟨rfl,n,os,rfl⟩))
 go_end0
 exact ⟨rfl,n,os,rfl⟩
theorem zGu (a:Option Addr) (w:World):Calls Tryz.prog 203 #[.slice a 0 0] w fun e w'=>e= .returned (.tuple #[])/\w'=w:=by
 have hP:=Go.calls_of_every_depth fun D=>Go.Proofs.AnyS.pdqsort_int_none_in Go.Proofs.laysPd D a 0 w;have hL:Calls Tryz.prog 228 #[.int .u64 0] w fun e w'=>e= .returned (.int .i64 0)/\w'=w:=Go.calls_of_every_depth fun D=>Go.Proofs.AnyS.bits_LenIn Go.Proofs.laysLn D 0 w (by omega) (by omega)
 go_enter Tryz.func203,Tryz.ntmps203
 go_wp2_with (first
  | (go_at_call 228;refine hL.mono ?_;rintro e w' ⟨rfl,rfl⟩)
  | (go_at_call 227;refine hP.mono ?_;rintro e w' ⟨rfl,rfl⟩))
 go_end0
 exact ⟨rfl,rfl⟩
noncomputable def zvf:zL E:=sp (cf [] [] [] [] [] []) Tryz.f202 ⟨[vL],[]⟩ ⟨[.own 0],[.row true (.int .i64)]⟩ [oL] [oL]
theorem zIU (a:List Int):zvf.F (a,())=bif a.isEmpty then zmn (some (([]:List Int),())) ((yD (([]:List Int)++a)).bind fun l=>some (l,())) else (yD (([]:List Int)++a)).bind fun l=>some (l,()):=zF (by kernel_rfl)
theorem zId {a:List Int}(h:a.length<4294967296):zvf.F (a,())=some (a,()):=by
 have hr:yD a=some a:=by rw [zuI,zn h];rfl
 rw [zIU,zKL,hr];cases a with
 | nil=>exact zeJ _
 | cons x l=>rfl
theorem zEi {G:Nat->Prop}{W0:World}(hG:zoT G W0):Xi Tryz.prog G W0 202 zvf :=
 zyD (C:=cf [] [] [] [] [] []) zsk (zvt .nil) rfl (zBl .nil) zwF Tryz.func202 (by kernel_rfl) (by kernel_rfl) (by kernel_rfl)
theorem zIV {w w':World}{A A' U U':Nat->Prop}{μ:Nat->Loc}{id:Nat}{v:Value}(h:ym E w A U μ (.own id) v) (hU:U' id):ym E w' A' U' μ (.own id) v:=by
 cases h with
 | own _ b off len cap _ hμ=>exact .own id b off len cap hU hμ
 | own0 _ a a2 _ hμ=>exact .own0 id a a2 hU hμ
theorem zHF {A1:Nat->Prop}{μ1:Nat->Loc}{l:List Int}{w1:World}{v1:Value}(S:z9 A1 μ1 [Blk.row (E:=E) true (.int .i64) l] w1) (h0:ym E w1 (Av A1 μ1 [Blk.row (E:=E) true (.int .i64) l]) (Us [Blk.row (E:=E) true (.int .i64) l]) μ1 (.own 0) v1) (hlen:l.length<4294967296) :
  Calls Tryz.prog 203 #[v1] w1 fun e w2=>e= .returned (.tuple #[])/\z9 A1 μ1 [Blk.row (E:=E) true (.int .i64) (wI l)] w2/\Adv (Lv μ1 [Blk.row (E:=E) true (.int .i64) l]) w1 (Lv μ1 [Blk.row (E:=E) true (.int .i64) (wI l)]) w2:=by
 have hok:=S.ok 0;cases h0 with
 | own0 _ a1 a2 hU hμ =>
  have hl:l=[]:=by
   rcases hok with ⟨_,_,_,_,_,e1,_⟩ | ⟨e,_⟩
   .have e1:μ1 0=_:=e1;rw [hμ] at e1;cases e1
   .exact e
  subst hl;have e0:wI []=[]:=by unfold wI;simp
  refine (zGu a1 w1).mono ?_;rintro e w' ⟨rfl,rfl⟩;rw [e0];exact ⟨rfl,S,Adv.refl _ _⟩
 | own _ bk off len cap hU hμ =>
  obtain ⟨hA,hb⟩:=S.out 0 bk off len cap rfl hμ;obtain ⟨cc,vs,t,rfl,e2,h1,h2,h3,h4⟩:∃(cc:Array Value) (vs:Nat->Value) (t:TypeId),len=l.length/\w1.heap[bk]? =some (.cells cc t (0,0))/\l.length<=cap/\off+cap*1<=cc.size /\
    (∀i,i<l.length->∀j u,(vs i).cells[j]? =some u->cc[off+i*1+j]? =some u)/\∀i (h:i<l.length),yt E w1 (Av A1 μ1 [Blk.row true (.int .i64) l]) (.int .i64) (vs i) l[i]:=by
   rcases hok with ⟨b',off',cap',cc,vs,e1,⟨t,f,e2,e3⟩,h1,h2,h3,h4⟩ | ⟨_,a,e⟩
   .have e1:μ1 0=_:=e1;rw [hμ] at e1;injection e1 with q1 q2 q3 q4;subst q1;subst q2;subst q4;have e3:=e3 rfl;subst e3;exact ⟨cc,vs,t,q3,e2,h1,h2,h3,h4⟩
   .have e:μ1 0=_:=e;rw [hμ] at e;cases e
  have hcell:∀(j:Nat) (h:j<l.length),cc[off+j]? =some (.int .i64 l[j]):=fun j h=>by
   have r:=h4 j h;have q:=h3 j h 0;obtain ⟨z,hz⟩:∃z:Int,z=l[j]:=⟨_,rfl⟩
   rw [<-hz] at r ⊢;generalize vs j=vj at r q;cases r with
   | int k z =>
    have:=q _ rfl;rw [zLv,zLk] at this;exact this
  have hsz:l.toArray.size=l.length:=by simp
  have hH:Go.Sort.Holds (Value.int .i64) w1 bk off l.toArray:=fun j hj=>by
   have hj:j<l.length:=by rw [<-hsz];exact hj
   refine ⟨?_,?_⟩
   .unfold World.cell?;rw [e2];show cc[off+j]? =some (Value.int .i64 l.toArray[j]!);rw [hcell j hj,getElem!_pos l.toArray j (by rw [hsz];exact hj)];rfl
   .unfold World.frozen?;rw [e2];simp
  refine (zEc bk off cap l w1 hH hb hlen).mono ?_;rintro e w' ⟨rfl,n,os,rfl⟩;obtain ⟨hS,hAd⟩:=zw1 S hμ hb e2 h1 h2 hcell n os;exact ⟨rfl,hS,hAd⟩
theorem zqX {G:Nat->Prop}{W0:World}(hG:zoT G W0):Xi Tryz.prog G W0 154 zta:=by
 intro A0 μ w args x y wd S hr hy;obtain ⟨l,⟨⟩⟩:=x;have hy:zpI l=some y:=hy;unfold zpI at hy;cases hc:decide (l.length<4294967296) with
 | false=>rw [hc] at hy;cases hy
 | true =>
 rw [hc] at hy;injection hy with hy;subst hy;have hlen:l.length<4294967296:=by simpa using hc
 have hcl:=zEi hG A0 μ w args (l,()) (l,()) wd S hr (zId hlen);obtain ⟨v,rfl⟩:∃v,args= #[v]:=by
  have hl:=hr.1;have hl:1=args.toList.length:=hl
  match ha:args.toList,hl with
  | [v],_=>exact ⟨v,by rw [<-zMh (xs:=args),ha]⟩
 go_enter Tryz.func154,Tryz.ntmps154
 have hout:∀ {vs:List Value}{A1:Nat->Prop}{μ1:Nat->Loc}{w1:World},zBd A0 μ (yJ id zvf.inn (HL.toP zvf.inn.holes (l,()))).2 w zvf (zvf.go.to (l,())) vs A1 μ1 w1->∃v1,vs=[v1]/\ym E w1 (Av A1 μ1 [Blk.row (E:=E) true (.int .i64) l]) (Us [Blk.row (E:=E) true (.int .i64) l]) μ1 (.own 0) v1/\z9 A1 μ1 [Blk.row (E:=E) true (.int .i64) l] w1:=fun {vs A1 μ1 w1} oc=>by
  have hl:=oc.rep.1;have hl:1=vs.length:=hl
  match vs,hl,oc with
  | [v1],_,oc=>exact ⟨v1,rfl,oc.rep.2 0 (.own 0) v1 rfl rfl,oc.sim⟩
 go_wp2_with (first | (go_at_call 202;refine hcl.mono ?_;rintro e w1 ⟨vs,A1,μ1,rfl,oc⟩;obtain ⟨v1,rfl,h1,hS1⟩:=hout oc;have hso:=zHF hS1 h1 hlen) | (go_at_call 203;refine hso.mono ?_;rintro e w2 ⟨rfl,hS2,hAd2⟩))
 go_ret
 exact ⟨[v1],A1,μ1,rfl,hS2,RL.cons (zIV h1 rfl) RL.nil,oc.adv.trans hAd2,oc.up,fun b hb=>zKW (oc.low b hb) hAd2.size,fun j ws h=>by cases j<;>cases h⟩
end Go.Pe.G
namespace Go.Proofs
open Go.Shelf
def zwO:Go.Shelf.Ren:={f:=fun k=>if k=6 then 110 else if k=10 then 219 else k,g:=fun k=>k,t:=fun k=>if k=0 then 0 else if k=3 then 3 else if k=4 then 4 else if k=22 then 38 else if k=23 then 3 else if k=25 then 128 else k}
theorem zIo:Bears Tryz.prog (zwO.f 6) (SlBodyH.n6 zwO):=Exists.intro ("slices.IndexFunc[[]int,int]") ⟨by kernel_rfl,by kernel_rfl⟩
theorem zIS:Bears Tryz.prog (zwO.f 10) (SlBodyH.n10 zwO):=Exists.intro ("slices.DeleteFunc[[]int,int]") ⟨by kernel_rfl,by kernel_rfl⟩
theorem zJf:SlLaysH.n10 Tryz.prog zwO:=by
 constructor<;>first | exact zIo | exact zIS | kernel_rfl | (intro w;kernel_rfl)
def znE:Go.Shelf.Ren:={f:=fun k=>if k=4 then 204 else k,g:=fun k=>k,t:=fun k=>if k=0 then 0 else if k=3 then 3 else if k=4 then 4 else if k=9 then 9 else if k=20 then 20 else if k=22 then 117 else if k=25 then 3 else k}
theorem zIn:Bears Tryz.prog (znE.f 4) (Body8.n4 znE):=Exists.intro ("slices.Grow[besom/bag.Bag,int]") ⟨by kernel_rfl,by kernel_rfl⟩
theorem zFx:Lays8.n4 Tryz.prog znE:=by
 constructor<;>first | exact zIn | kernel_rfl | (intro w;kernel_rfl)
end Go.Proofs
namespace Go.Pe.G
open Go.Pe Go.Proofs
theorem lv1 {μ:Nat->Loc}{l:List Int}{b:Nat}(h:Lv (E:=E) μ [.free,Blk.row true (.int .i64) l] b):∃off len cap,μ 1= .blk b off len cap:=by
 obtain ⟨id,off,len,cap,hl,hm⟩:=h
 match id with
 | 0=>cases hl
 | 1=>exact ⟨off,len,cap,hm⟩
 | id+2=>cases hl
theorem zKl {A0:Nat->Prop}{μ:Nat->Loc}{l:List Int}{w:World}{b off cap:Nat}{cc:Array Value}{t:TypeId}(h0:μ 1= .blk b off l.length cap) (hA: ¬A0 b) (e2:w.heap[b]? =some (.cells cc t (0,0))) (h1:l.length<=cap) (h2:off+cap<=cc.size)
  (hc:∀(i:Nat) (h:i<l.length),cc[off+i]? =some (.int .i64 l[i])):z9 A0 μ [.free,Blk.row (E:=E) true (.int .i64) l] w:=by
 refine ⟨fun id=>?_,fun i j b o l c b' o' l' c' ne hi hj=>?_,fun id b' o l' c ho hm=>?_⟩
 .match id with
  | 0=>exact trivial
  | 1 =>
   refine .inl ⟨b,off,cap,cc,fun i=>.int .i64 (l.getD i 0),h0,⟨t,(0,0),e2,fun _=>rfl⟩,h1,?_,fun i hi j u hu=>?_,fun i hi=>?_⟩
   .show off+cap*1<=cc.size;omega
   .have hi:i<l.length:=hi
    match j,hu with
    | 0,hu =>
     have hu:some (Value.int .i64 (l.getD i 0))=some u:=hu;injection hu with hu;subst hu;show cc[off+i*1+0]? =_;rw [zLv,zLk,hc i hi,zKD,zKC hi];rfl
    | j+1,hu=>cases hu
   .have hi:i<l.length:=hi;have e:l.getD i 0=l[i]:=by rw [zKD,zKC hi];rfl
    show yt E _ _ (.int .i64) (.int .i64 (l.getD i 0)) l[i];rw [e];exact .int .i64 _
  | id+2=>exact trivial
 .match i,j with
  | 0,_=>cases hi
  | 1,0=>cases hj
  | 1,1=>exact zm rfl ne
  | 1,j+2=>cases hj
  | i+2,_=>cases hi
 .match id with
  | 0=>cases ho
  | 1 =>
   have hm:μ 1=Loc.blk b' o l' c:=hm;rw [h0] at hm;injection hm with hm;subst hm;exact ⟨hA,(zK1.1 e2).1⟩
  | id+2=>cases ho
theorem zJM {A0:Nat->Prop}{μ:Nat->Loc}{w:World}{b cap:Nat}{cc:Array Value}{t:TypeId}(h0:μ 0= .blk b 0 0 cap) (hA: ¬A0 b) (e2:w.heap[b]? =some (.cells cc t (0,0))) (h2:cap<=cc.size):z9 A0 μ [Blk.row (E:=E) true (.int .i64) []] w:=by
 refine ⟨fun id=>?_,fun i j b o l c b' o' l' c' ne hi hj=>?_,fun id b' o l' c ho hm=>?_⟩
 .match id with
  | 0 =>
   refine .inl ⟨b,0,cap,cc,fun i=>.int .i64 0,h0,⟨t,(0,0),e2,fun _=>rfl⟩,zLE _,?_,fun i hi=>zm hi (Nat.not_lt_zero _),fun i hi=>zm hi (Nat.not_lt_zero _)⟩;show 0+cap*1<=cc.size;omega
  | id+1=>exact trivial
 .match i,j with
  | 0,0=>exact zm rfl ne
  | 0,j+1=>cases hj
  | i+1,_=>cases hi
 .match id with
  | 0 =>
   have hm:μ 0=Loc.blk b' o l' c:=hm;rw [h0] at hm;injection hm with hm;subst hm;exact ⟨hA,(zK1.1 e2).1⟩
  | id+1=>cases ho
theorem zJ9 {A0:Nat->Prop}{μ:Nat->Loc}{w:World}{a:Option Addr}(h0:μ 0= .none a):z9 A0 μ [Blk.row (E:=E) true (.int .i64) []] w:=by
 refine ⟨fun id=>?_,fun i j b o l c b' o' l' c' ne hi hj=>?_,fun id b' o l' c ho hm=>?_⟩
 .match id with
  | 0=>exact .inr ⟨rfl,a,h0⟩
  | id+1=>exact trivial
 .match i,j with
  | 0,0=>exact zm rfl ne
  | 0,j+1=>cases hj
  | i+1,_=>cases hi
 .match id with
  | 0 =>
   have hm:μ 0=Loc.blk b' o l' c:=hm;rw [h0] at hm;cases hm
  | id+1=>cases ho
theorem zI5 {A0:Nat->Prop}{μ:Nat->Loc}{l:List Int}{w:World}(S:z9 A0 μ [Blk.row (E:=E) true (.int .i64) l] w) {bk off len cap:Nat}(hμ:μ 0= .blk bk off len cap) :
  ¬A0 bk/\bk<w.heap.size/\len=l.length/\∃(cc:Array Value) (t:TypeId),w.heap[bk]? =some (.cells cc t (0,0))/\l.length<=cap/\off+cap<=cc.size/\∀(j:Nat) (h:j<l.length),cc[off+j]? =some (.int .i64 l[j]):=by
 obtain ⟨hA,hb⟩:=S.out 0 bk off len cap rfl hμ;refine ⟨hA,hb,?_⟩;rcases S.ok 0 with ⟨b',off',cap',cc,vs,e1,⟨t,f,e2,e3⟩,h1,h2,h3,h4⟩ | ⟨_,a,e⟩
 .have e1:μ 0=_:=e1;rw [hμ] at e1;injection e1 with q1 q2 q3 q4;subst q1;subst q2;subst q4;have e3:=e3 rfl;subst e3;have h2:off+cap*1<=cc.size:=h2;refine ⟨q3,cc,t,e2,h1,by omega,fun j h=>?_⟩;have r:=h4 j h;have q:=h3 j h 0;obtain ⟨z,hz⟩:∃z:Int,z=l[j]:=⟨_,rfl⟩
  have r:yt E w _ (.int .i64) (vs j) l[j]:=r;rw [<-hz] at r ⊢;generalize vs j=vj at r q;cases r with
  | int k z =>
   have:=q _ rfl;have this:cc[off+j*1+0]? =_:=this;rw [zLv,zLk] at this;exact this
 .have e:μ 0=_:=e;rw [hμ] at e;cases e
theorem zE2 (W:World) (x:Int):Calls Tryz.prog 220 #[.int .i64 x] W fun e w'=>e= .returned (.bool (decide (x=0)))/\w'=W:=by
 go_enter Tryz.func220,Tryz.ntmps220
 go_wp2
 go_ret
 exact ⟨rfl,rfl⟩
theorem ztZ {G:Nat->Prop}{W0:World}(hG:zoT G W0):Xi Tryz.prog G W0 199 zAh:=by
 intro A0 μ w args x y wd S hr hy;obtain ⟨l,⟨⟩⟩:=x;have hy:zwM l=some y:=hy;unfold zwM at hy;cases hc:(decide (0<l.length)&&decide (l.length<4294967296)) with
 | false=>rw [hc] at hy;cases hy
 | true =>
 rw [hc] at hy;injection hy with hy;subst hy;simp only [zKB,decide_eq_true_eq] at hc;obtain ⟨hpos,hlen⟩:=hc;obtain ⟨v,rfl,h0⟩:∃v,args= #[v]/\ym E w (Av A0 μ [Blk.row true (.int .i64) l]) (Us [Blk.row true (.int .i64) l]) μ (.own 0) v:=by
  have hl:=hr.1;have hl:1=args.toList.length:=hl
  match ha:args.toList,hl with
  | [v],_=>exact ⟨v,by rw [<-zMh (xs:=args),ha],hr.2 0 (.own 0) v rfl (by rw [ha];rfl)⟩
 have S:z9 A0 μ [Blk.row true (.int .i64) l] w:=S;cases h0 with
 | own0 _ a1 a2 hU hμ =>
  exfalso;rcases S.ok 0 with ⟨_,_,_,_,_,e1,_⟩ | ⟨e,_⟩
  .have e1:μ 0=_:=e1;rw [hμ] at e1;cases e1
  .rw [e] at hpos;cases hpos
 | own _ bk off len cap hU hμ =>
  obtain ⟨hA,hb,rfl,cc,t,e2,h1,h2,hcell⟩:=zI5 S hμ;have hsz:l.toArray.size=l.length:=by simp
  have hH:Go.Sort.Holds (Value.int .i64) w bk off l.toArray:=fun j hj=>by
   have hj:j<l.length:=by rw [<-hsz];exact hj
   refine ⟨?_,?_⟩
   .unfold World.cell?;rw [e2];show cc[off+j]? =some (Value.int .i64 l.toArray[j]!);rw [hcell j hj,getElem!_pos l.toArray j (by rw [hsz];exact hj)];rfl
   .unfold World.frozen?;rw [e2];simp
  have fg:∀(W:World) (x:Int),FnGives Tryz.prog 220 #[] #[.int .i64 x] (.bool (decide (x=0))) W:=fun W x=>(zE2 W x).mono (by rintro e w' ⟨rfl,rfl⟩;exact ⟨rfl,0,rfl⟩);have eg:∀args w,(callFunc 220 args).run Tryz.prog w= .ok (.enter 220 args) w:=enters_of Tryz.func220 (by kernel_rfl) rfl;have hd:=AnyE.slices_DeleteFunc zJf (Value.int .i64) (fun _=>rfl) (fun x:Int=>decide (x=0)) 220 #[] eg 0 (fun w=>by kernel_rfl) bk off cap l.toArray w (fun W x _=>fg W x) (fun n os dk x _=>fg _ x) hH (by rw [hsz];omega) (by rw [hsz];exact h1);rw [hsz] at hd;rw [show l.toArray.toList=l from rfl] at hd;have hf:(l.filter fun x=> !decide (x=0)).length<=l.length:=zLO _ _;clear eg fg;generalize hm:(l.filter fun x=> !decide (x=0))=m at hd hf ⊢;have hd:Calls Tryz.prog 219 #[.slice (some ⟨bk,off,none⟩) l.length cap,.func (.func 220) #[] #[]] w fun e w'=>e= .returned (.slice (some ⟨bk,off,none⟩) m.length cap)/\∃q,w'=Go.Sort.putRow (Value.int .i64) (Go.Sort.ahead w q) bk off (m++List.replicate (l.length-m.length) 0).toArray:=hd
  go_enter Tryz.func199,Tryz.ntmps199
  go_wp2_with (go_at_call 219;refine hd.mono ?_;rintro e w' ⟨rfl,q,rfl⟩)
  go_ret
  have hheap:∀k,(Go.Sort.putRow (Value.int .i64) (Go.Sort.ahead w q) bk off (m++List.replicate (l.length-m.length) 0).toArray).heap[k]? =if bk=k then some (.cells (Go.Sort.putCells (Value.int .i64) off (m++List.replicate (l.length-m.length) 0).toArray cc) t (0,0)) else w.heap[k]? :=fun k=>by
   unfold Go.Sort.putRow Go.Sort.mapBlock Go.Sort.ahead;dsimp only;rw [Array.getElem?_modify];split
   .rename_i h;subst h;rw [e2];rfl
   .rfl
  have hput:∀(i:Nat) (h:i<m.length),(Go.Sort.putCells (Value.int .i64) off (m++List.replicate (l.length-m.length) 0).toArray cc)[off+i]? =some (.int .i64 m[i]):=fun i h=>by
   unfold Go.Sort.putCells;rw [Array.getElem?_mapIdx,hcell i (by omega),zLD,zb ⟨by omega,by simp;omega⟩,show off+i-off=i by omega,getElem!_pos _ i (by simp;omega)];simp [zMt h]
  have hsize:(Go.Sort.putRow (Value.int .i64) (Go.Sort.ahead w q) bk off (m++List.replicate (l.length-m.length) 0).toArray).heap.size=w.heap.size:=by simp
  refine ⟨[.slice (some ⟨bk,off,none⟩) m.length cap],A0,fun id=>if id=1 then .blk bk off m.length cap else μ id,rfl,?_,RL.cons (.own 1 bk off m.length cap rfl rfl) RL.nil,⟨rfl,rfl,rfl,by rw [hsize];exact zKF _,fun b hb2 hn=>?_,fun b _ h=>?_⟩,fun _ h=>h,fun b h=>by rw [hsize];exact wd.low b h,fun j ws h=>by
   cases j with
   | zero=>cases h
   | succ j=>cases h⟩
  .show z9 A0 _ [.free,Blk.row true (.int .i64) m] _;have hmc:m.length<=cap:=zLI hf h1;refine zKl (b:=bk) (off:=off) (cap:=cap) (t:=t) rfl hA (by rw [hheap,zb rfl]) hmc ?_ hput;unfold Go.Sort.putCells;rw [Array.size_mapIdx];exact h2
  .rw [hheap,zc];rintro rfl;exact hn ⟨0,off,l.length,cap,rfl,hμ⟩
  .obtain ⟨o,n,c,e⟩:=lv1 h;have e:Loc.blk bk off m.length cap= .blk b o n c:=e;injection e with e;subst e;exact ⟨0,off,l.length,cap,rfl,hμ⟩
theorem zEG (a:Option Addr) (k:Nat) (w:World) (h0:0<k) (hk:k<4294967296):Calls Tryz.prog 204 #[.slice a 0 0,.int .i64 (k:Int)] w fun e w'=>∃(G:Nat) (cc:Array Value) (t:TypeId),G<=cc.size/\e= .returned (.slice (some ⟨w.heap.size,0,none⟩) 0 G)/\w'=w.drew.alloc (.cells cc t):=by
 obtain ⟨i0,hi⟩:=zMr.1 (show (Tryz.prog.info? (znE.t 25)).isSome=true by kernel_rfl);have h2:(Tryz.prog.info? (znE.t 25)).map TypeInfo.size=some 1:=by kernel_rfl
 have h3:(Tryz.prog.info? (znE.t 25)).map TypeInfo.bytes=some 8:=by kernel_rfl
 have h4:(Tryz.prog.info? (znE.t 25)).map TypeInfo.zero=some (some (.int .i64 0)):=by kernel_rfl
 rw [hi] at h2 h3 h4;simp only [zLD,Option.some.injEq] at h2 h3 h4;have hd:=Any8.slices_Grow_grow zFx i0 (.int .i64 0) hi h4 (by rw [h2];decide) a 0 0 k [] w (zKF _) (by omega) (by rw [h3];omega) (by omega) (by simp) (fun _=>rfl) (fun b _ j v h=>by cases h);refine hd.mono ?_;rintro e w' ⟨rfl,rfl⟩;refine ⟨_,_,_,?_,rfl,rfl⟩;have hg:=grownCap_ge w (0+k) 0 (znE.t 25);have z1:(Value.int IntKind.i64 0).cells.size=1:=rfl;simp only [Array.size_append,Builtin.zeroCells,Array.size_map,Array.size_range,z1];simp;omega
theorem zCM {G:Nat->Prop}{W0:World}(hG:zoT G W0):Xi Tryz.prog G W0 204 zEY:=by
 intro A0 μ w args x y wd S hr hy;obtain ⟨n,⟨⟩⟩:=x;have hy:zvN n=some y:=hy;unfold zvN at hy;cases hc:(decide (0<=n)&&decide (n<4294967296)) with
 | false=>rw [hc] at hy;cases hy
 | true =>
 rw [hc] at hy;injection hy with hy;subst hy;simp only [zKB,decide_eq_true_eq] at hc;obtain ⟨hn0,hn1⟩:=hc;obtain ⟨k,hk0⟩:=Int.eq_ofNat_of_zero_le hn0;have hk1:k<4294967296:=by
  have h: @Eq Int n (k:Int):=hk0;have h2: @LT.lt Int _ n (4294967296:Int):=hn1;omega
 subst hk0;obtain ⟨a,rfl⟩:∃a,args= #[.slice a 0 0,.int .i64 (k:Int)]:=by
  have hl:=hr.1;have hl:2=args.toList.length:=hl
  match ha:args.toList,hl with
  | [v,v1],_ =>
   have h0:=hr.2 0 .nils v rfl (by rw [ha];rfl);have h1:=hr.2 1 (.v (.int .i64) (k:Int)) v1 rfl (by rw [ha];rfl);have e1:v1= .int .i64 (k:Int):=by
    cases h1 with
    | v _ _ _ h=>cases h with
     | int k z=>rfl
   subst e1;cases h0 with
   | nils a=>exact ⟨a,by rw [<-zMh (xs:=args),ha]⟩
 have S:z9 A0 μ ([]:List (Blk E)) w:=S;by_cases hk:k=0
 .subst hk;refine (Any8.slices_Grow_room zFx a 0 0 0 w (zKF _) (by omega) (by omega) (by omega)).mono ?_;rintro e w' ⟨rfl,rfl⟩;refine ⟨[.slice a 0 0],A0,fun _=>.none a,rfl,zJ9 rfl,RL.cons (.own0 0 a a rfl rfl) RL.nil,⟨rfl,rfl,rfl,zKF _,fun b _ _=>rfl,fun b _ h=>?_⟩,fun _ h=>h,wd.low,fun j ws h=>by cases h⟩;obtain ⟨id,off,len,cap,_,hm⟩:=h;cases hm
 .refine (zEG a k w (by omega) hk1).mono ?_;rintro e w' ⟨N,cc,t,hN,rfl,rfl⟩;have hat:(w.drew.alloc (.cells cc t)).heap[w.heap.size]? =some (.cells cc t (0,0)):=by
   show (w.heap.push _)[w.heap.size]? =_;simp
  have hold:∀b,b<w.heap.size->(w.drew.alloc (.cells cc t)).heap[b]? =w.heap[b]? :=fun b hb=>by
   show (w.heap.push _)[b]? =_;rw [zMa,zi]
  have hsz:(w.drew.alloc (.cells cc t)).heap.size=w.heap.size+1:=by simp
  refine ⟨[.slice (some ⟨w.heap.size,0,none⟩) 0 N],A0,fun _=>.blk w.heap.size 0 0 N,rfl,zJM rfl (fun h=>by have:=wd.low _ h;omega) hat hN,RL.cons (.own 0 w.heap.size 0 0 N rfl rfl) RL.nil,⟨rfl,rfl,rfl,by rw [hsz];omega,fun b hb _=>hold b hb,fun b hb h=>?_⟩,fun _ h=>h,fun b h=>by have:=wd.low b h;rw [hsz];omega,fun j ws h=>by cases h⟩;obtain ⟨id,off,len,cap,_,hm⟩:=h;injection hm with hm;omega
theorem zyT (n:Int) (s:za) (ys:List (List Int)) (hs:s.Ws.length<1000000):∀(f i:Nat) (l pre:List (List Int)),i+f=s.Ws.length->zxG s f (i:Int)=some l->(∃post,ys=pre++l++post) ->
  yY (Uc ys) (f+1) (n,(pre.length:Int),(s.Ws.length:Int),(i:Int),s,())=some (.brk (n,((pre++l).length:Int),s,()))
 | 0,i,l,pre,hi,h,e=>by
  injection h with h;subst h;rw [yY,ziL,show decide ((i:Int)<(s.Ws.length:Int))=false by rw [decide_eq_false_iff_not];omega];simp
 | f+1,i,l,pre,hi,h,⟨post,e⟩=>by
  simp only [zxG,zKM] at h;obtain ⟨a,h1,l',h2,h3⟩:=h;injection h3 with h3;subst h3;have ei:w64 ((i:Int)+1)=((i+1:Nat):Int):=by rw [zwu (by omega) (by omega)];omega
  have hn:Xu ys (pre.length:Int) a.1=some ():=by rw [e,zKI];exact ziU pre (l'++post) _
  rw [yY,ziL,show decide ((i:Int)<(s.Ws.length:Int))=true by rw [decide_eq_true_eq];omega,ei,show ((i+1:Nat):Int)=(i:Int)+1 by omega,h1];simp only [zt,zKA,hn];have:=zyT n s ys hs f (i+1) l' (pre++[a.1]) (by omega) (by rw [show ((i+1:Nat):Int)=(i:Int)+1 by omega];exact h2) ⟨post,by rw [e];simp⟩;simpa using this
theorem zzb (n:Int) (s:za) (ys:List (List Int)) (hs:s.Ms.length<1000000):∀(f i:Nat) (l pre:List (List Int)),i+f=s.Ms.length->zxh s f (i:Int)=some l->(∃post,ys=pre++l++post) ->
  yY (zbN ys) (f+1) (n,(pre.length:Int),(s.Ms.length:Int),(i:Int),s,())=some (.brk (n,((pre++l).length:Int),()))
 | 0,i,l,pre,hi,h,e=>by
  injection h with h;subst h;rw [yY,ziF,show decide ((i:Int)<(s.Ms.length:Int))=false by rw [decide_eq_false_iff_not];omega];simp
 | f+1,i,l,pre,hi,h,⟨post,e⟩=>by
  simp only [zxh,zKM] at h;obtain ⟨a,h1,l',h2,h3⟩:=h;injection h3 with h3;subst h3;have ei:w64 ((i:Int)+1)=((i+1:Nat):Int):=by rw [zwu (by omega) (by omega)];omega
  have hn:Xu ys (pre.length:Int) a.1=some ():=by rw [e,zKI];exact ziU pre (l'++post) _
  rw [yY,ziF,show decide ((i:Int)<(s.Ms.length:Int))=true by rw [decide_eq_true_eq];omega,ei,show ((i+1:Nat):Int)=(i:Int)+1 by omega,h1];simp only [zt,zKA,hn];have:=zzb n s ys hs f (i+1) l' (pre++[a.1]) (by omega) (by rw [show ((i+1:Nat):Int)=(i:Int)+1 by omega];exact h2) ⟨post,by rw [e];simp⟩;simpa using this
theorem zuC (n:Int) (x:HL E.T zcL.holes) (ys:List (List Int)) (h:zcf.F x=some ys):zpg (Y1 ys) Tryz.f150 zcL n x=some (ys.length:Int):=by
 obtain ⟨a1,a2,a3,a4,a5,a6,a7,a8,a9,a10,a11,a12,a13,a14,a15,a16,a17,a18,a19,a20,a21,a22,a23,a24,a25,a26,a27,a28,a29,a30,a31,a32,a33,a34,⟨⟩⟩:=x;refine Eq.trans (zvv n ys a1 a2 a3 a4 a5 a6 a7 a8 a9 a10 a11 a12 a13 a14 a15 a16 a17 a18 a19 a20 a21 a22 a23 a24 a25 a26 a27 a28 a29 a30 a31 a32 a33 a34) ?_;have h:zvL (za.mk (zd.mk a1 a2 a3 a4 a5 a6 a7 a8 (zw.mk a9 a10) a11 a12 a13 a14) (zw.mk a15 a16) a17 a18 (zo.mk a19 a20) a21 a22 a23 a24 a25 a26 (zy.mk a27 a28 a29 a30) a31 a32 (zN.mk a33 a34))=some ys:=h;show ((zcA (za.mk (zd.mk a1 a2 a3 a4 a5 a6 a7 a8 (zw.mk a9 a10) a11 a12 a13 a14) (zw.mk a15 a16) a17 a18 (zo.mk a19 a20) a21 a22 a23 a24 a25 a26 (zy.mk a27 a28 a29 a30) a31 a32 (zN.mk a33 a34))).bind fun y1=>(Xu ys 0 y1.1).bind fun _ =>
  (yc (Uc ys) (n,0+1,((za.mk (zd.mk a1 a2 a3 a4 a5 a6 a7 a8 (zw.mk a9 a10) a11 a12 a13 a14) (zw.mk a15 a16) a17 a18 (zo.mk a19 a20) a21 a22 a23 a24 a25 a26 (zy.mk a27 a28 a29 a30) a31 a32 (zN.mk a33 a34)).Ws.length:Int),0,za.mk (zd.mk a1 a2 a3 a4 a5 a6 a7 a8 (zw.mk a9 a10) a11 a12 a13 a14) (zw.mk a15 a16) a17 a18 (zo.mk a19 a20) a21 a22 a23 a24 a25 a26 (zy.mk a27 a28 a29 a30) a31 a32 (zN.mk a33 a34),())).bind _)=_
 generalize za.mk (zd.mk a1 a2 a3 a4 a5 a6 a7 a8 (zw.mk a9 a10) a11 a12 a13 a14) (zw.mk a15 a16) a17 a18 (zo.mk a19 a20) a21 a22 a23 a24 a25 a26 (zy.mk a27 a28 a29 a30) a31 a32 (zN.mk a33 a34)=s at h ⊢;unfold zvL at h;cases hc:(decide (s.Ws.length<1000000)&&decide (s.Ms.length<1000000)) with
 | false=>rw [hc] at h;cases h
 | true =>
 rw [hc,zt] at h;simp only [zKB,decide_eq_true_eq] at hc;simp only [zKM] at h;obtain ⟨a,e1,b,e2,c,e3,e4⟩:=h;injection e4 with e4;have k2:=ziT _ _ vV _ (zyT n s ys hc.1 s.Ws.length 0 b [a.1] (by omega) e2 ⟨c,by rw [<-e4];simp⟩) (by unfold vV;omega);have k7:=ziT _ _ vV _ (zzb n s ys hc.2 s.Ms.length 0 c (a.1::b) (by omega) e3 ⟨[],by rw [<-e4];simp⟩) (by unfold vV;omega);have k2:yY (Uc ys) vV (n,0+1,(s.Ws.length:Int),0,s,())=some (.brk (n,(((a.1::b).length:Nat):Int),s,())):=k2;have k7:yY (zbN ys) vV (n,(((a.1::b).length:Nat):Int),(s.Ms.length:Int),0,s,())=some (.brk (n,(((a.1::b)++c).length:Int),())):=k7;have hn:Xu ys 0 a.1=some ():=by rw [<-e4];exact ziU [] (b++c) _
 rw [e1,zKA,hn,zKA,Y3,k2,zKA];dsimp only;rw [Y3,k7,zKA];dsimp only;rw [<-e4];rfl
end Go.Pe.G
namespace Go.Pe.G
open Go.Pe Go.Proofs
theorem k2 {G:Nat->Prop}{W0:World}{f:Nat}{s:zL E}{ss r} (hs:Xi Tryz.prog G W0 f s) (h:Oks Tryz.prog G W0 ((f,ss)::r)) (hc:Zd Tryz.prog f=true:=by kernel_rfl):Oks Tryz.prog G W0 ((f,s::ss)::r):= .cons _ _ _ _ hc hs h
theorem k1 {G:Nat->Prop}{W0:World}{f:Nat}{s:zL E}{r} (hs:Xi Tryz.prog G W0 f s) (h:Oks Tryz.prog G W0 r) (hc:Zd Tryz.prog f=true:=by kernel_rfl):Oks Tryz.prog G W0 ((f,[s])::r):= .cons _ _ _ _ hc hs (.skip _ _ h)
abbrev Sd (G:Nat->Prop) (W0:World):=Xi (E:=E) Tryz.prog G W0
theorem gs {G:Nat->Prop}{W0:World}{l:List (Nat×List (zL E))}{loops mv kept pk its} {f:FuncId}{fn:Func}{inn out:wq}{gi go:List Grp}{hi:Yj E gi=inn.holes} {ho:Yj E go=out.holes} (h:Oks Tryz.prog G W0 l) (h2:Its Tryz.prog G W0 its) (hf:Tryz.prog.funcs[f]? =some fn:=by kernel_rfl) (hb:fn.body.isSome=true:=by kernel_rfl)
  (hk:(cf l loops mv kept pk its).kept=zlb inn.blks 0:=by kernel_rfl) (hn:Nat.ble inn.vals.length fn.ntmps=true:=by kernel_rfl):Xi Tryz.prog G W0 f (sp (cf l loops mv kept pk its) fn inn out gi go hi ho):=zyD (C:=cf l loops mv kept pk its) zsk (zvt h) rfl (zBl h2) zwF hf hb hk hn
variable {G:Nat->Prop}{W0:World}(hG:zoT G W0)
include hG
theorem zom:Sd G W0 94 zez:=gs .nil .nil
theorem Wk:Sd G W0 110 vi:=gs (k1 (zom hG) .nil) .nil
theorem Xs:Sd G W0 74 wQ:=gs (k1 (Wk hG) .nil) .nil
theorem zp2:Sd G W0 93 zhK:=gs (k1 (Xs hG) .nil) .nil
theorem We:Sd G W0 147 vk:=gs (k1 (zp2 hG) .nil) .nil
theorem Xw:Sd G W0 95 wL:=gs (k1 (We hG) .nil) .nil
theorem zcp:Sd G W0 53 zcC:=gs (k1 (Xw hG) .nil) .nil
theorem X9:Sd G W0 54 Ul:=gs .nil .nil
theorem Wa:Sd G W0 63 Uo:=gs .nil .nil
theorem zbI:Sd G W0 73 zbj:=gs .nil .nil
theorem zm2:Sd G W0 72 zdn:=gs (k1 (zbI hG) .nil) .nil
theorem zqt:Sd G W0 75 zg1:=gs (k1 (zbI hG) .nil) .nil
theorem WN:Sd G W0 110 vE:=gs (k1 (zqt hG) .nil) .nil
theorem XS:Sd G W0 74 vc:=gs (k1 (WN hG) .nil) .nil
theorem zqI:Sd G W0 159 zgY:=gs .nil .nil
theorem zsG:Sd G W0 113 zlY:=gs (k1 (zqI hG) .nil) .nil
theorem zrl:Sd G W0 112 zjZ:=gs (k1 (zsG hG) .nil) .nil
theorem Y6:Sd G W0 158 wx:=gs (k1 (zrl hG) .nil) .nil
theorem YN:Sd G W0 111 wh:=gs (k1 (Y6 hG) .nil) .nil
theorem ztw:Sd G W0 76 zoN:=gs (k1 (YN hG) .nil) .nil
theorem zjk:Sd G W0 46 zfr:=gs .nil .nil
theorem zqo:Sd G W0 115 zhP:=gs (k1 (zjk hG) .nil) .nil
theorem Yq:Sd G W0 160 x8:=gs (k1 (zqo hG) .nil) .nil
theorem ZY:Sd G W0 114 xP:=gs (k1 (Yq hG) .nil) .nil
theorem zst:Sd G W0 77 zmm:=gs (k1 (ZY hG) .nil) .nil
theorem zrN:Sd G W0 26 zmw:=gs (k1 (zcp hG) (k1 (X9 hG) (k1 (Wa hG) (k1 (zm2 hG) (k1 (zbI hG) (k1 (XS hG) (k1 (ztw hG) (k1 (zst hG) .nil)))))))) .nil
theorem zn3:Sd G W0 71 znk:=gs .nil .nil
theorem XN:Sd G W0 24 zaJ:=gs (k1 (zn3 hG) .nil) .nil
theorem zcR:Sd G W0 78 zhk:=gs (k1 (XN hG) .nil) .nil
theorem ziw:Sd G W0 27 zfI:=gs (k1 (zcR hG) .nil) .nil
theorem zmI:Sd G W0 79 zcD:=gs .nil .nil
theorem zdg:Sd G W0 28 zdU:=gs (k1 (zmI hG) .nil) .nil
theorem zrZ:Sd G W0 29 zmp:=gs .nil .nil
theorem xu:Sd G W0 31 xC:=gs .nil .nil
theorem WR:Sd G W0 30 vQ:=gs (k1 (xu hG) .nil) .nil
theorem zrd:Sd G W0 32 zj7:=gs .nil .nil
theorem zbG:Sd G W0 33 zbi:=gs .nil .nil
theorem YZ:Sd G W0 34 XQ:=gs .nil .nil
theorem zts:Sd G W0 35 zoS:=gs .nil .nil
theorem zgv:Sd G W0 36 VF:=gs .nil .nil
theorem zux:Sd G W0 81 zp9:=gs .nil .nil
theorem zv3:Xl Tryz.prog G W0 116 zb7:=zu9 G W0 hG
theorem zlR:Sd G W0 37 zk8:=gs (k1 (zux hG) .nil) (.cons _ _ _ (zv3 hG) (.nil))
theorem zui:Sd G W0 161 zp0:=gs .nil .nil
theorem zu5:Sd G W0 162 zpZ:=gs .nil .nil
theorem zu4:Sd G W0 163 zqB:=gs .nil .nil
theorem zu2:Sd G W0 164 zpV:=gs .nil .nil
theorem zc1:Sd G W0 165 YS:=gs .nil .nil
theorem Y8:Sd G W0 118 zaX:=gs (k1 (zui hG) (k1 (zu5 hG) (k1 (zu4 hG) (k1 (zu2 hG) (k1 (zc1 hG) .nil))))) .nil
theorem zgK:Sd G W0 82 zd4:=gs (k1 (Y8 hG) .nil) .nil
theorem zje:Sd G W0 83 zgq:=gs .nil .nil
theorem ztu:Sd G W0 38 zoC:=gs (k1 (zgK hG) (k1 (zje hG) .nil)) .nil
theorem Yc:Sd G W0 39 XD:=gs .nil .nil
theorem YX:Sd G W0 41 XO:=gs (k1 (Yc hG) .nil) .nil
theorem Yg:Sd G W0 40 Xn:=gs (k1 (YX hG) .nil) .nil
theorem zgt:Xl Tryz.prog G W0 80 uo:=zfa G W0 hG
theorem zkv:Sd G W0 6 zio:=gs (k1 (zrN hG) (k1 (ziw hG) (k1 (zdg hG) (k1 (zrZ hG) (k1 (WR hG) (k1 (xu hG) (k1 (zrd hG) (k1 (zbG hG) (k1 (YZ hG) (k1 (zts hG) (k1 (zgv hG) (k1 (zlR hG) (k1 (ztu hG) (k1 (Yc hG) (k1 (Yg hG) (k1 (YX hG) .nil)))))))))))))))) (.cons _ _ _ (zgt hG) (.nil))
theorem zgE:Sd G W0 51 VE:=gs .nil .nil
theorem Zi:Sd G W0 50 xw:=gs (k1 (zgE hG) .nil) .nil
theorem zke:Sd G W0 10 zih:=gs (k1 (Zi hG) .nil) .nil
theorem zbV:Sd G W0 52 zeY:=gs (k1 (zn3 hG) .nil) .nil
theorem zb4:Sd G W0 89 zcb:=gs (k1 (XN hG) (k1 (zbV hG) .nil)) .nil
theorem zga:Sd G W0 11 zi0:=gs (k1 (zbV hG) .nil) .nil
theorem UT:Sd G W0 90 zbu:=gs (k1 (zga hG) (k1 (XN hG) .nil)) .nil
theorem ziQ:Sd G W0 91 zfd:=gs (k1 (zb4 hG) (k1 (UT hG) .nil)) .nil
theorem zqD:Sd G W0 47 zhC:=gs (k1 (zb4 hG) (k1 (UT hG) (k1 (ziQ hG) .nil))) .nil
theorem zfk:Sd G W0 92 WV:=gs .nil .nil
theorem zjo:Sd G W0 48 ze8:=gs (k1 (zcp hG) (k1 (zfk hG) .nil)) .nil
theorem zrr:Sd G W0 49 zjE:=gs .nil .nil
theorem zef:Sd G W0 9 zfY:=gs (k1 (zke hG) (k1 (zqD hG) (k1 (zjo hG) (k1 (zrr hG) .nil)))) .nil
theorem zmc:Sd G W0 12 zcc:=gs .nil .nil
theorem zm4:Sd G W0 84 zdi:=gs .nil .nil
theorem zrg:Sd G W0 43 zjt:=gs (k1 (zm4 hG) .nil) .nil
theorem zpr:Sd G W0 42 zgs:=gs (k1 (zrg hG) .nil) .nil
theorem Xv:Sd G W0 217 WU:=gs .nil .nil
theorem zcq:Sd G W0 218 zcB:=gs (k1 (Y8 hG) .nil) .nil
theorem zgU:Sd G W0 205 Ux:=gs (k1 (Xv hG) (k1 (zcq hG) .nil)) .nil
theorem zjv:Sd G W0 206 za7:=gs (k1 (zgK hG) (k1 (Xv hG) .nil)) .nil
theorem zgu:Sd G W0 207 VD:=gs (k1 (zje hG) (k1 (Y8 hG) (k1 (Xv hG) .nil))) .nil
theorem ze7:Sd G W0 208 Wv:=gs (k1 (Xv hG) (k1 (zcq hG) .nil)) .nil
theorem Xt:Sd G W0 166 W2:=gs (k1 (zgU hG) (k1 (zjv hG) (k1 (zgu hG) (k1 (ze7 hG) .nil)))) .nil
theorem zj5:Sd G W0 119 zaL:=gs (k1 (Xt hG) .nil) .nil
theorem zbe:Sd G W0 126 Wx:=gs .nil .nil
theorem zqq:Sd G W0 209 zhU:=gs .nil .nil
theorem zpO:Sd G W0 209 zgW:=gs .nil .nil
theorem zqP:Sd G W0 209 zhq:=gs .nil .nil
theorem zqE:Sd G W0 209 zhT:=gs .nil .nil
theorem vW:Sd G W0 221 ZR:=gs (k1 (Y8 hG) .nil) .nil
theorem xX:Sd G W0 223 xZ:=gs .nil .nil
theorem zdh:Sd G W0 229 Xc:=gs (k1 (vW hG) (k1 (xX hG) .nil)) .nil
theorem uL:Sd G W0 222 uG:=gs .nil .nil
theorem X1:Sd G W0 225 YF:=gs .nil .nil
theorem wH:Sd G W0 254 wD:=gs .nil .nil
theorem zgw:Sd G W0 230 VK:=gs (k1 (vW hG) (k1 (uL hG) (k1 (X1 hG) (k1 (wH hG) .nil)))) .nil
theorem ZE:Sd G W0 226 uR:=gs (k1 (X1 hG) .nil) .nil
theorem YW:Sd G W0 255 XU:=gs (k1 (Y8 hG) .nil) .nil
theorem zkQ:Sd G W0 231 zbB:=gs (k1 (ZE hG) (k1 (YW hG) .nil)) .nil
theorem zeu:Sd G W0 232 X4:=gs (k1 (xX hG) (k1 (wH hG) (k1 (YW hG) .nil))) .nil
theorem ziv:Sd G W0 233 zae:=gs (k1 (xX hG) (k1 (YW hG) .nil)) .nil
theorem zbH:Sd G W0 224 zbh:=gs .nil .nil
theorem zeZ:Sd G W0 234 Wm:=gs (k1 (vW hG) (k1 (uL hG) (k1 (zbH hG) .nil))) .nil
theorem zhD:Sd G W0 235 Uq:=gs (k1 (vW hG) (k1 (ZE hG) (k1 (wH hG) .nil))) .nil
theorem zbf:Sd G W0 256 WF:=gs (k1 (Y8 hG) (k1 (uL hG) .nil)) .nil
theorem zgC:Sd G W0 236 VJ:=gs (k1 (zbf hG) .nil) .nil
theorem zgB:Sd G W0 237 VA:=gs (k1 (xX hG) (k1 (wH hG) (k1 (YW hG) .nil))) .nil
theorem zhd:Sd G W0 238 UK:=gs (k1 (xX hG) (k1 (wH hG) (k1 (YW hG) .nil))) .nil
theorem zhM:Sd G W0 239 UJ:=gs (k1 (vW hG) (k1 (uL hG) .nil)) .nil
theorem zhz:Sd G W0 240 UB:=gs (k1 (vW hG) (k1 (xX hG) (k1 (zbH hG) .nil))) .nil
theorem zgD:Sd G W0 241 Vy:=gs (k1 (vW hG) (k1 (ZE hG) .nil)) .nil
theorem ze5:Sd G W0 242 WH:=gs (k1 (wH hG) (k1 (zbf hG) .nil)) .nil
theorem ziO:Sd G W0 167 zfF:=gs (k2 (zqq hG) (k2 (zpO hG) (k2 (zqP hG) (k2 (zqE hG) (.skip _ _ (k1 (zdh hG) (k1 (zgw hG) (k1 (zkQ hG) (k1 (zeu hG) (k1 (ziv hG) (k1 (zeZ hG) (k1 (zhD hG) (k1 (zgC hG) (k1 (zgB hG) (k1 (zhd hG) (k1 (zhM hG) (k1 (zhz hG) (k1 (zgD hG) (k1 (ze5 hG) .nil))))))))))))))))))) .nil
theorem zeD:Sd G W0 169 zb2:=gs (k1 (zbG hG) (k1 (YZ hG) .nil)) .nil
theorem Vm:Sd G W0 210 VP:=gs .nil .nil
theorem zc9:Sd G W0 171 UX:=gs (k1 (Yg hG) (k1 (Vm hG) .nil)) .nil
theorem zj4:Sd G W0 168 za5:=gs (k1 (Yc hG) (k1 (zeD hG) (k1 (zc9 hG) .nil))) .nil
theorem zk1:Sd G W0 120 zbF:=gs (k1 (zbe hG) (k1 (ziO hG) (k1 (zj4 hG) .nil))) .nil
theorem ziW:Sd G W0 121 zax:=gs (k1 (zeD hG) .nil) .nil
theorem ur:Sd G W0 170 vv:=gs .nil .nil
theorem zka:Sd G W0 122 zaQ:=gs (k1 (YX hG) (k1 (ur hG) (k1 (zc9 hG) .nil))) .nil
theorem zeI:Sd G W0 125 zbY:=gs .nil .nil
theorem zc5:Sd G W0 211 UZ:=gs .nil .nil
theorem zer:Sd G W0 172 zfo:=gs (k1 (zc5 hG) .nil) .nil
theorem zcx:Sd G W0 173 zci:=gs .nil .nil
theorem zjY:Sd G W0 123 za4:=gs (k1 (zeI hG) (k1 (zer hG) (k1 (zcx hG) .nil))) .nil
theorem ze2:Sd G W0 174 WC:=gs .nil .nil
theorem ZF:Sd G W0 212 uO:=gs (k1 (Yg hG) (k1 (YX hG) (k1 (Vm hG) .nil))) .nil
theorem zgQ:Sd G W0 175 UH:=gs (k1 (zbG hG) (k1 (YZ hG) (k1 (zb4 hG) (k1 (ZF hG) .nil)))) .nil
theorem zhR:Sd G W0 176 Uj:=gs .nil .nil
theorem zg5:Sd G W0 177 Uv:=gs (k1 (ziO hG) (k1 (ZF hG) .nil)) .nil
theorem zhE:Sd G W0 178 Ur:=gs (k1 (ZF hG) .nil) .nil
theorem zhf:Sd G W0 179 Uw:=gs (k1 (Xt hG) (k1 (ZF hG) .nil)) .nil
theorem zg2:Sd G W0 180 Uk:=gs (k1 (Yc hG) (k1 (Yg hG) (k1 (ur hG) (k1 (Vm hG) .nil)))) .nil
theorem ze4:Sd G W0 181 Wt:=gs (k1 (Xt hG) .nil) .nil
theorem zkl:Sd G W0 124 zh7:=gs (k1 (ze2 hG) (k1 (zgQ hG) (k1 (zhR hG) (k1 (zg5 hG) (k1 (zhE hG) (k1 (zhf hG) (k1 (zg2 hG) (k1 (ze4 hG) .nil)))))))) .nil
theorem Xk:Sd G W0 182 Yf:=gs .nil .nil
theorem zph:Sd G W0 184 zgo:=gs .nil .nil
theorem V0:Sd G W0 183 uj:=gs (k1 (zph hG) .nil) .nil
theorem zgI:Sd G W0 127 zea:=gs (k1 (Xk hG) (k1 (V0 hG) .nil)) .nil
theorem zjF:Sd G W0 85 zaN:=gs (k1 (UT hG) (k1 (zj5 hG) (k1 (zk1 hG) (k1 (ziW hG) (k1 (zka hG) (k1 (zjY hG) (k1 (zkl hG) (k1 (zeI hG) (k1 (zbe hG) (k1 (zgI hG) .nil)))))))))) .nil
theorem Vt:Sd G W0 86 vT:=gs .nil .nil
theorem zro:Sd G W0 44 zj8:=gs (k1 (zjF hG) (k1 (Vt hG) .nil)) .nil
theorem ut:Sd G W0 185 uY:=gs .nil .nil
theorem ZH:Sd G W0 189 uQ:=gs .nil .nil
theorem XV:Sd G W0 186 YH:=gs (k1 (xu hG) (k1 (ZH hG) .nil)) .nil
theorem zg6:Sd G W0 128 Ut:=gs (k1 (ut hG) (k1 (XV hG) .nil)) .nil
theorem zhQ:Sd G W0 129 UA:=gs (k1 (zcx hG) .nil) .nil
theorem zjW:Sd G W0 130 za8:=gs (k1 (xu hG) .nil) .nil
theorem UN:Sd G W0 187 YV:=gs (k1 (zkl hG) .nil) .nil
theorem zgN:Sd G W0 131 UC:=gs (k1 (UN hG) .nil) .nil
theorem zcz:Sd G W0 188 Ui:=gs (k1 (zer hG) (k1 (ut hG) .nil)) .nil
theorem zi9:Sd G W0 132 zar:=gs (k1 (ut hG) (k1 (XV hG) (k1 (zcz hG) .nil))) .nil
theorem zjX:Sd G W0 133 zaU:=gs (k1 (ut hG) (k1 (zcz hG) (k1 (ZH hG) .nil))) .nil
theorem zhO:Sd G W0 134 UI:=gs (k1 (zga hG) .nil) .nil
theorem ze3:Sd G W0 135 WI:=gs (k1 (xu hG) .nil) .nil
theorem zuY:Sd G W0 190 zqT:=gs (k1 (xu hG) (k1 (ur hG) (k1 (zc5 hG) .nil))) .nil
theorem zhB:Sd G W0 136 Um:=gs (k1 (ut hG) (k1 (ZH hG) (k1 (zuY hG) .nil))) .nil
theorem zof:Sd G W0 214 zel:=gs .nil .nil
theorem VI:Sd G W0 183 v8:=gs (k1 (zof hG) .nil) .nil
theorem zag:Sd G W0 216 Xg:=gs (k1 (Xk hG) .nil) .nil
theorem ziH:Sd G W0 213 zgj:=gs (k1 (zag hG) .nil) .nil
theorem zqy:Sd G W0 191 zhA:=gs (k1 (VI hG) (k1 (ziH hG) .nil)) .nil
theorem zhl:Sd G W0 137 UG:=gs (k1 (zjo hG) (k1 (ziQ hG) (k1 (ut hG) (k1 (XV hG) (k1 (ZH hG) (k1 (zqy hG) .nil)))))) .nil
theorem zpp:Sd G W0 215 zf3:=gs .nil .nil
theorem Ub:Sd G W0 183 um:=gs (k1 (zpp hG) .nil) .nil
theorem zrk:Sd G W0 192 zj1:=gs (k1 (Xk hG) (k1 (Ub hG) .nil)) .nil
theorem zp6:Sd G W0 193 zgT:=gs (k1 (ziH hG) (k1 (zag hG) .nil)) .nil
theorem zaK:Sd G W0 194 XJ:=gs (k1 (Yg hG) (k1 (Vm hG) .nil)) .nil
theorem zjh:Sd G W0 138 U4:=gs (k1 (Yc hG) (k1 (zrk hG) (k1 (zp6 hG) (k1 (zaK hG) .nil)))) .nil
theorem zjP:Sd G W0 139 za1:=gs (k1 (Xt hG) .nil) .nil
theorem zgP:Sd G W0 140 Un:=gs (k1 (YX hG) (k1 (ur hG) (k1 (zaK hG) .nil))) .nil
theorem ziu:Sd G W0 141 zaC:=gs (k1 (Xt hG) .nil) .nil
theorem zgM:Sd G W0 142 UE:=gs .nil .nil
theorem zdy:Sd G W0 195 za0:=gs .nil .nil
theorem zji:Sd G W0 143 zap:=gs (k1 (zer hG) (k1 (zcx hG) (k1 (zdy hG) .nil))) .nil
theorem zj3:Sd G W0 144 zaR:=gs (k1 (UN hG) (k1 (zdy hG) .nil)) .nil
theorem zgg:Sd G W0 145 WW:=gs (k1 (UT hG) (k1 (zgI hG) .nil)) .nil
theorem zf5:Sd G W0 146 W5:=gs .nil .nil
theorem zjb:Sd G W0 87 zal:=gs (k1 (zg6 hG) (k1 (zhQ hG) (k1 (zjW hG) (k1 (zgN hG) (k1 (zi9 hG) (k1 (zjX hG) (k1 (zhO hG) (k1 (ze3 hG) (k1 (zhB hG) (k1 (zhl hG) (k1 (zjh hG) (k1 (zjP hG) (k1 (zgP hG) (k1 (ziu hG) (k1 (zgM hG) (k1 (zji hG) (k1 (zj3 hG) (k1 (zgg hG) (k1 (zf5 hG) .nil))))))))))))))))))) .nil
theorem WO:Sd G W0 88 vD:=gs .nil .nil
theorem zqO:Sd G W0 45 zhc:=gs (k1 (zjb hG) (k1 (WO hG) .nil)) .nil
theorem zgL:Sd G W0 8 zd9:=gs (k1 (zpr hG) (k1 (zro hG) (k1 (zqO hG) (k1 (zjk hG) .nil)))) .nil
theorem zsF:Sd G W0 13 zmG:=gs (k1 (zgL hG) .nil) .nil
theorem zca:Sd G W0 58 zb5:=gs .nil .nil
theorem zuf:Sd G W0 59 zpU:=gs (k1 (zdg hG) (k1 (zcR hG) .nil)) .nil
theorem zvk:Sd G W0 98 zqR:=gs .nil .nil
theorem zdP:Sd G W0 155 Xx:=gs (k1 (zCM hG) .nil) .nil
theorem zvo:Sd G W0 99 zsJ:=gs (k1 (zqX hG) (k1 (zdP hG) .nil)) .nil
theorem zrv:Sd G W0 196 zmd:=gs (k1 (Xv hG) (k1 (zcq hG) .nil)) .nil
theorem zet:Sd G W0 197 zf9:=gs (k1 (zqX hG) .nil) .nil
theorem zsh:Sd G W0 151 zmK:=gs (k1 (Yc hG) (k1 (Yg hG) (k1 (zrv hG) (k1 (zet hG) .nil)))) .nil
theorem zra:Sd G W0 198 zj2:=gs (k1 (YZ hG) (k1 (Y8 hG) .nil)) .nil
theorem zfO:Sd G W0 149 ziC:=gs .nil .nil
theorem zi1:Sd G W0 200 zfz:=gs (k1 (zfO hG) .nil) .nil
theorem zre:Sd G W0 201 zj6:=gs (k1 (vW hG) (k1 (uL hG) (k1 (xX hG) (k1 (zbH hG) (k1 (X1 hG) (k1 (ZE hG) .nil)))))) .nil
theorem zri:Sd G W0 152 zjH:=gs (k1 (xu hG) (k1 (YZ hG) (k1 (zet hG) (k1 (zra hG) (k1 (ztZ hG) (k1 (zi1 hG) (k1 (zre hG) .nil))))))) .nil
theorem zjc:Sd G W0 148 zgb:=gs .nil .nil
theorem zpM:Sd G W0 153 zhu:=gs (k1 (xu hG) (k1 (zjc hG) (k1 (zet hG) (k1 (ztZ hG) (k1 (zi1 hG) .nil))))) .nil
theorem zwh:Xl Tryz.prog G W0 150 zcf:=by
 obtain ⟨c,hc⟩:=zMr.1 zIc;exact zqn (Cg:=Y1 []) rfl zsk (fun f s hs=>Oks.at (k1 (zsh hG) (k1 (zri hG) (k1 (zpM hG) .nil))) f s hs) rfl zwF (fun g it h=>by cases h) zH7 zKe hc zcf (zLe (by kernel_rfl)) rfl zuC
theorem zde:Sd G W0 60 zdR:=gs (k1 (zvk hG) (k1 (zvo hG) .nil)) (.cons _ _ _ (zwh hG) (.nil))
theorem zku:Sd G W0 17 zig:=gs (k1 (zca hG) (k1 (zuf hG) (k1 (zde hG) .nil))) .nil
theorem zeM:Sd G W0 96 zbR:=gs (k1 (zjc hG) .nil) .nil
theorem ztl:Sd G W0 100 zoR:=gs (k1 (zfO hG) .nil) .nil
theorem ztE:Sd G W0 61 zol:=gs (k1 (zeM hG) (k1 (ztl hG) .nil)) .nil
theorem zgH:Sd G W0 18 zeb:=gs (k1 (zde hG) (k1 (ztE hG) .nil)) .nil
theorem ztG:Sd G W0 97 zoq:=gs (k1 (zfO hG) .nil) .nil
theorem zba:Sd G W0 57 U7:=gs (k1 (XN hG) (k1 (zcR hG) (k1 (zeM hG) (k1 (ztG hG) .nil)))) .nil
theorem zoY:Sd G W0 101 zeo:=gs (k1 (XN hG) .nil) .nil
theorem zqs:Sd G W0 103 zhL:=gs .nil .nil
theorem zdk:Sd G W0 102 Y7:=gs (k1 (zlR hG) (k1 (zbV hG) (k1 (X9 hG) (k1 (zqs hG) .nil)))) .nil
theorem zcm:Sd G W0 62 zcv:=gs (k1 (zoY hG) (k1 (zdk hG) .nil)) .nil
theorem zko:Sd G W0 64 zh6:=gs (k1 (ziw hG) (k1 (zcm hG) .nil)) .nil
theorem zkr:Sd G W0 19 zin:=gs (k1 (zba hG) (k1 (zca hG) (k1 (zcm hG) (k1 (Wa hG) (k1 (zko hG) .nil))))) .nil
theorem zn2:Sd G W0 55 zns:=gs (k1 (X9 hG) .nil) .nil
theorem zdc:Sd G W0 15 zdO:=gs (k1 (X9 hG) (k1 (zn2 hG) .nil)) .nil
theorem zsw:Sd G W0 65 zlL:=gs (k1 (X9 hG) (k1 (Wa hG) .nil)) .nil
theorem zgJ:Sd G W0 20 zec:=gs (k1 (zdc hG) (k1 (Wa hG) (k1 (zko hG) (k1 (zsw hG) .nil)))) .nil
theorem zpR:Sd G W0 67 zgS:=gs .nil .nil
theorem zsj:Sd G W0 66 zlV:=gs .nil .nil
theorem Wc:Sd G W0 104 vg:=gs (k1 (zsj hG) .nil) .nil
theorem Xo:Sd G W0 68 wO:=gs (k1 (Wc hG) .nil) .nil
theorem zmo:Sd G W0 21 zkW:=gs (k1 (zdc hG) (k1 (zdg hG) (k1 (zn2 hG) (k1 (zpR hG) (k1 (Xo hG) .nil))))) .nil
theorem zql:Sd G W0 105 zgR:=gs .nil .nil
theorem ZM:Sd G W0 156 xI:=gs (k1 (zql hG) .nil) .nil
theorem Zp:Sd G W0 107 xA:=gs (k1 (ZM hG) .nil) .nil
theorem zpS:Sd G W0 106 zhn:=gs .nil .nil
theorem Zv:Sd G W0 157 xE:=gs (k1 (zpS hG) .nil) .nil
theorem u0:Sd G W0 108 xr:=gs (k1 (Zv hG) .nil) .nil
theorem zr0:Sd G W0 69 zlU:=gs (k1 (zde hG) (k1 (Zp hG) (k1 (u0 hG) .nil))) .nil
theorem ztr:Sd G W0 109 zok:=gs (k1 (zcR hG) .nil) .nil
theorem ztt:Sd G W0 70 zoB:=gs (k1 (zcm hG) (k1 (ztr hG) .nil)) .nil
theorem zkj:Sd G W0 22 zhZ:=gs (k1 (zba hG) (k1 (Wa hG) (k1 (zr0 hG) (k1 (ztt hG) .nil)))) .nil
theorem zth:Sd G W0 14 zoj:=gs (k1 (zku hG) (k1 (zgH hG) (k1 (zkr hG) (k1 (zgJ hG) (k1 (zmo hG) (k1 (zkj hG) (k1 (zcp hG) .nil))))))) .nil
theorem zrq:Sd G W0 56 zjz:=gs (k1 (zbV hG) .nil) .nil
theorem ztq:Sd G W0 16 zoH:=gs (k1 (zef hG) (k1 (zrq hG) (k1 (zba hG) (k1 (zca hG) .nil)))) .nil
theorem zit:Sd G W0 4 zaa:=gs (k1 (zkv hG) (k1 (zef hG) (k1 (zmc hG) (k1 (zsF hG) (k1 (zth hG) (k1 (zdc hG) (k1 (ztq hG) (k1 (zku hG) (k1 (zgH hG) (k1 (zkr hG) (k1 (zgJ hG) (k1 (zmo hG) (k1 (zkj hG) .nil))))))))))))) .nil
theorem Vi:Sd G W0 23 ZV:=gs .nil .nil
theorem zfR:Sd G W0 25 W6:=gs (k1 (Vi hG) .nil) .nil
theorem zm5:Sd G W0 5 zdd:=gs (k1 (Vi hG) (k1 (XN hG) (k1 (zfR hG) .nil))) .nil
theorem zlB:Sd G W0 7 zcu:=gs .nil .nil
theorem zix:Sd G W0 3 zaz:=gs (k1 (zit hG) (k1 (zm5 hG) (k1 (zkv hG) (k1 (zlB hG) (k1 (zgL hG) (k1 (zef hG) (k1 (zke hG) (k1 (zga hG) .nil)))))))) .nil
end Go.Pe.G
