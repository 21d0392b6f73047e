/- Own work of this seat: GH, GW, GX, G3. -/
import Derived.Test.YtijbahhphbkdiaaGreatDoorTRGa
import Derived.Tactics
import Derived.Tactics2
import Derived.Shelf.SlicesE.DeleteFunc
import Derived.Shelf.Spec.SlicesGrow
set_option linter.unusedVariables false
set_option linter.unusedSectionVars false
set_option linter.unusedSimpArgs false
set_option linter.unnecessarySimpa false
set_option linter.deprecated false
set_option maxRecDepth 100000
open Array renaming getElem?_eq_some_iff → zKU, getElem?_push → zL3
open Bool renaming and_eq_true → zKu
open Int renaming toNat_natCast → zLd
open List renaming getElem?_eq_getElem → zKv, getD_eq_getElem?_getD → zKw, append_nil → zKx, append_assoc → zKD, nil_append → zKG, length_filter_le → zLI, length_drop → zLM, drop_eq_nil_of_le → zL4, take_of_length_le → zMh, getElem_append_left → zMm
open Nat renaming le_refl → zKz, lt_of_lt_of_le → zKT, le_of_ble_eq_true → zK8, add_zero → zLe, mul_one → zLs, le_trans → zLB, zero_le → zLH
open Option renaming bind_some → zKt, bind_eq_some_iff → zKF, map_eq_some_iff → zKL, map_some → zLx, isSome_iff_exists → zMk
namespace Go.Pe.G
open Go.Pe Go.Proofs
theorem ziS {A B D:Type}(g:A->Option (yL A B D)) {o:yL Unit B D}:∀(k m:Nat) (x:A),yZ g k x=some o->k<=m->yZ g m x=some o
 | 0,m,x,h,_=>by cases h
 | k+1,0,x,h,hm=>by omega
 | k+1,m+1,x,h,hm=>by
  simp only [yZ,zKF] at h ⊢;obtain ⟨s,h1,h2⟩:=h;refine ⟨s,h1,?_⟩;cases s with
  | again y=>exact ziS g k m y h2 (by omega)
  | brk b=>exact h2
  | ret c=>exact h2
theorem ziR {α:Type}(pre post:List α) (z:α):XL (pre++z::post) (pre.length:Int) z=some ():=by
 unfold XL;rw [zb];refine ⟨by omega,?_⟩;simp
theorem zkl (n:Int) (ys:List Int):∀(f:Nat) (s:BitVec 64) (l pre:List Int),zan f s=some l->ys=pre++l->yZ (zca ys) f (n,(pre.length:Int),s,())=some (.brk (n,(ys.length:Int),()))
 | 0,s,l,pre,h,_=>by cases h
 | f+1,s,l,pre,h,e=>by
  simp only [zan] at h;simp only [yZ,zr2];cases hz:decide (s=0#64) with
  | true =>
   simp only [hz,zu,Option.some.injEq] at h;subst h;simp only [zKx] at e;subst e;rfl
  | false =>
   simp only [hz,zM,zKL] at h;obtain ⟨l',h1,rfl⟩:=h;have hn:XL ys (pre.length:Int) (w64 (tz s+1))=some ():=by rw [e];exact ziR pre l' _
   simp only [Bool.not_false,zu,zJu,zKt,hn];have:=zkl n ys f (s&&&(s-1#64)) l' (pre++[w64 (tz s+1)]) h1 (by rw [e];simp);simpa using this
theorem zvb (G:Nat->Prop) (W0:World) (hG:zr1 G W0):XN Tryz.prog G W0 115 zcO:=by
 obtain ⟨c,hc⟩:=zMk.1 zJb;refine zp0 (Cg:=zc7 []) rfl zsm (fun f s hs=>Oks.at (.cons _ _ _ _ zIP (zFO hG) (.skip _ _ .nil)) f s hs) rfl zxe (fun g it h=>by cases h) zI2 zJU hc zcO (zK8 (by kernel_rfl)) rfl ?_;rintro n ⟨a,⟨⟩⟩ ys h;have h:zan 66 a=some ys:=h;have e:=zwj n ys a;have k:=ziS _ 66 vZ _ (zkl n ys 66 a ys [] h rfl) (by decide);refine Eq.trans e ?_;have k':yZ (zca ys) vZ (n,0,a,())=some (.brk (n,(ys.length:Int),())):=k;rw [Xh,k'];rfl
theorem zv4 {a:Int}(h: -9223372036854775808<=a) (h2:a<9223372036854775808):w64 a=a:=by
 rw [zs7];omega
theorem zfw (n:Int) (ys:List (List Int)) (l:List Int) (sz:Nat) (h1:1<=sz) (h2:sz<1000000) (h3:l.length<1000000):∀(f p:Nat) (pre:List (List Int)),(l.drop p).length<=f->ys=pre++un sz f (l.drop p)->p<2000000 ->
  yZ (uW ys) (f+1) (n,(pre.length:Int),(p:Int),l,(sz:Int),())=some (.brk (n,(ys.length:Int),())):=by
 intro f
 induction f with
 | zero =>
  intro p pre hf e hp;simp only [yZ,Ve];simp only [zLM] at hf;have: ¬(p:Int)<(l.length:Int):=by omega
  simp only [this,decide_false,zM,zKt];simp only [un,zKx] at e;rw [e]
 | succ f ih =>
  intro p pre hf e hp;rw [yZ,Ve];by_cases hlt:p<l.length
  .have hlt':(p:Int)<(l.length:Int):=by omega
   have hcut:cut l (p:Int) (l.length:Int)=some (l.drop p):=by
    unfold cut;have:(decide (0<=(p:Int))&&decide ((p:Int)<=(l.length:Int))&&decide ((l.length:Int)<=(l.length:Int)))=true:=by simp;omega
    simp only [this,zu];simp
   obtain ⟨x,r,hxr⟩:∃x r,l.drop p=x::r:=by
    cases hd:l.drop p with
    | nil=>have:=congrArg List.length hd;simp at this;omega
    | cons x r=>exact ⟨x,r,rfl⟩
   have hch:un sz (f+1) (l.drop p)=(l.drop p).take sz::un sz f (l.drop (p+sz)):=by
    rw [hxr];simp only [un];rw [<-hxr,List.drop_drop]
   have hm:∃m:Nat,(bif decide (((l.drop p).length:Int)<(sz:Int)) then (((l.drop p).length:Int)) else (sz:Int))=(m:Int)/\m=min sz (l.length-p):=by
    simp only [zLM];by_cases hs:((l.length-p:Nat):Int)<(sz:Int)
    .exact ⟨l.length-p,by simp only [hs,decide_true,zu],by omega⟩
    .exact ⟨sz,by simp only [hs,decide_false,zM],by omega⟩
   obtain ⟨m,hm1,hm2⟩:=hm;have hw:w64 ((p:Int)+(m:Int))=((p+m:Nat):Int):=by rw [zv4 (by omega) (by omega)];omega
   have hw2:w64 ((p:Int)+(sz:Int))=((p+sz:Nat):Int):=by rw [zv4 (by omega) (by omega)];omega
   have hne: ¬((p+m:Nat):Int)=0:=by omega
   simp only [hlt',decide_true,zu,hcut,zKt,hm1,hw,hw2,hne,decide_false,Bool.and_false,zM];have hn:XL ys (pre.length:Int) ((l.drop p).take sz)=some ():=by rw [e,hch];exact ziR pre _ _
   have hcut2:cut l (p:Int) ((p+m:Nat):Int)=some ((l.drop p).take sz):=by
    unfold cut;have:(decide (0<=(p:Int))&&decide ((p:Int)<=((p+m:Nat):Int))&&decide (((p+m:Nat):Int)<=(l.length:Int)))=true:=by simp;omega
    simp only [this,zu];refine congrArg some ?_;simp only [zLd];rw [List.drop_take,Nat.add_sub_cancel_left,hm2];by_cases hs:sz<=l.length-p
    .rw [Nat.min_eq_left hs]
    .rw [Nat.min_eq_right (by omega),zMh (l:=l.drop p) (by simp),zMh (l:=l.drop p) (by simp;omega)]
   have hnext:=ih (p+sz) (pre++[(l.drop p).take sz]) (by simp only [zLM] at hf ⊢;omega) (by rw [e,hch];simp) (by omega);have hlen:((pre++[(l.drop p).take sz]).length:Int)=(pre.length:Int)+1:=by simp
   rw [hlen] at hnext;cases hfull:(decide ((p:Int)=0)&&decide (((p+m:Nat):Int)=(l.length:Int))&&decide (((p+m:Nat):Int)=(l.length:Int))) with
   | true =>
    simp only [zu];have hl:l=(l.drop p).take sz:= ?_
    .rw [<-hl] at hn;rw [hn];exact hnext
    simp only [zKu,decide_eq_true_eq] at hfull;obtain ⟨⟨hp0,hpl⟩,_⟩:=hfull;have hp00:p=0:=by omega
    rw [hp00,List.drop_zero,zMh (by omega)]
   | false =>
    simp only [zM,hcut2,zKt,decide_true,zu];rw [hn];exact hnext
  .have hnl: ¬(p:Int)<(l.length:Int):=by omega
   have hd:l.drop p=[]:=zL4 (by omega);simp only [hnl,decide_false,zM,zKt];rw [hd] at e;simp only [un,zKx] at e;rw [e]
theorem zgc (n:Int) (ys:List (List Int)) (l:List Int) (sz:Int) (h:zmo l sz=some ys):yZ (uW ys) vZ (n,0,0,l,sz,())=some (.brk (n,(ys.length:Int),())):=by
 unfold zmo at h;cases hc:(decide (1<=sz)&&decide (sz<1000000)&&decide ((l.length:Int)<1000000)) with
 | false=>simp [hc] at h
 | true =>
  simp only [hc,zu] at h;injection h with h;simp only [zKu,decide_eq_true_eq] at hc;obtain ⟨⟨c1,c2⟩,c3⟩:=hc;have k:=ziS _ (l.length+1) vZ _ (zfw n ys l sz.toNat (by omega) (by omega) (by omega) l.length 0 [] (by simp) (by simpa using h.symm) (by omega)) (by unfold vZ;omega);have hs:((sz.toNat:Nat):Int)=sz:=by omega
  rw [hs] at k;exact k
theorem zfC (G:Nat->Prop) (W0:World) (hG:zr1 G W0):XN Tryz.prog G W0 77 uu:=by
 obtain ⟨c,hc⟩:=zMk.1 zJq;refine zp0 (Cg:=Zm []) rfl zsm (fun f s hs=>Oks.at .nil f s hs) rfl zxe (fun g it h=>by cases h) zJf zKo hc uu (zK8 (by kernel_rfl)) rfl (fun n x ys h=>?_);refine Eq.trans (zgX n ys x.1 x.2.1) ?_;rw [Xh,zgc n ys x.1 x.2.1 h];rfl
end Go.Pe.G
namespace Go.Pe.G
open Go.Pe Go.Proofs
theorem zEn (bk off cap:Nat) (l:List Int) (w:World) (hH:Go.Sort.Holds (Value.int .i64) w bk off l.toArray) (hb:bk<w.heap.size) (hlen:l.length<4294967296) :
  Calls Tryz.prog 203 #[.slice (some ⟨bk,off,none⟩) l.length cap] w fun e w'=>e= .returned (.tuple #[])/\∃n os,w'=Go.Sort.grow (Go.Sort.putRow (Value.int .i64) (Go.Sort.ahead w n) bk off (vr l).toArray) os:=by
 have hsz:l.toArray.size=l.length:=by simp
 have hlog:Go.Sort.bitsLen l.length<4611686018427387904:=by
  unfold Go.Sort.bitsLen;split
  .omega
  .rename_i h0;have:=(Nat.log2_lt h0 (k:=32)).2 (by omega);omega
 have hdep:=Go.Sort.pdqDepth_le_59 Go.Sort.ltInt l.toArray 0 l.toArray.size (Go.Sort.bitsLen l.toArray.size) true true (by rw [hsz];omega);have hs:Go.Sort.pdq Go.Sort.ltInt l.toArray 0 l.toArray.size (Go.Sort.bitsLen l.toArray.size) true true=(vr l).toArray:=Go.Proofs.Any.sort_int_eqD l;have hP:Calls Tryz.prog 227 #[.slice (some ⟨bk,off,none⟩) l.length cap,.int .i64 0,.int .i64 (l.length:Int),.int .i64 ((Go.Sort.bitsLen l.length:Nat):Int)] w fun e w'=>e= .returned (.tuple #[])/\∃n os,w'=Go.Sort.grow (Go.Sort.putRow (Value.int .i64) (Go.Sort.ahead w n) bk off (vr l).toArray) os:=by
  have hk:=Go.calls_of_every_depth fun D=>Go.Proofs.Any.pdqWalkInInt Go.Proofs.laysPd D 65 bk off cap 0 l.toArray.size (Go.Sort.bitsLen l.toArray.size) l.toArray w (by omega) hH hb (zLH _) (zKz _) (by rw [hsz];omega) (by rw [hsz];exact hlog) (Or.inl rfl);rw [hs,hsz] at hk;exact hk
 have hL:Calls Tryz.prog 228 #[.int .u64 (l.length:Int)] w fun e w'=>e= .returned (.int .i64 ((Go.Sort.bitsLen l.length:Nat):Int))/\w'=w:=by
  have hk:=Go.calls_of_every_depth fun D=>Go.Proofs.AnyS.bits_LenIn Go.Proofs.laysLn D (l.length:Int) w (by omega) (by omega);rw [zLd,Go.Proofs.bitLen_eq _ (by omega)] at hk;exact hk
 clear hH hdep hs hsz
 go_enter Tryz.func203,Tryz.ntmps203
 go_wp2_with (first
  | (go_at_call 228;refine hL.mono ?_;rintro e w' ⟨rfl,rfl⟩)
  | (go_at_call 227;refine hP.mono ?_;rintro e w' ⟨rfl,n,os,rfl⟩))
 go_end0
 exact ⟨rfl,n,os,rfl⟩
theorem zGi (a:Option Addr) (w:World):Calls Tryz.prog 203 #[.slice a 0 0] w fun e w'=>e= .returned (.tuple #[])/\w'=w:=by
 have hP:=Go.calls_of_every_depth fun D=>Go.Proofs.AnyS.pdqsort_int_none_in Go.Proofs.laysPd D a 0 w;have hL:Calls Tryz.prog 228 #[.int .u64 0] w fun e w'=>e= .returned (.int .i64 0)/\w'=w:=Go.calls_of_every_depth fun D=>Go.Proofs.AnyS.bits_LenIn Go.Proofs.laysLn D 0 w (by omega) (by omega)
 go_enter Tryz.func203,Tryz.ntmps203
 go_wp2_with (first
  | (go_at_call 228;refine hL.mono ?_;rintro e w' ⟨rfl,rfl⟩)
  | (go_at_call 227;refine hP.mono ?_;rintro e w' ⟨rfl,rfl⟩))
 go_end0
 exact ⟨rfl,rfl⟩
noncomputable def zuD:zL E:=sp (cf [] [] [] [] [] []) Tryz.f202 ⟨[vL],[]⟩ ⟨[.own 0],[.row true (.int .i64)]⟩ [oL] [oL]
theorem zIL (a:List Int):zuD.F (a,())=bif a.isEmpty then zmS (some (([]:List Int),())) ((yD (([]:List Int)++a)).bind fun l=>some (l,())) else (yD (([]:List Int)++a)).bind fun l=>some (l,()):=zH (by kernel_rfl)
theorem zIi {a:List Int}(h:a.length<4294967296):zuD.F (a,())=some (a,()):=by
 have hr:yD a=some a:=by rw [zus,zr h];rfl
 rw [zIL,zKG,hr];cases a with
 | nil=>exact zfm _
 | cons x l=>rfl
theorem zEV {G:Nat->Prop}{W0:World}(hG:zr1 G W0):WC Tryz.prog G W0 202 zuD :=
 zy7 (C:=cf [] [] [] [] [] []) zsm (zww .nil) rfl (zAD .nil) zxe Tryz.func202 (by kernel_rfl) (by kernel_rfl) (by kernel_rfl)
theorem zIZ {w w':World}{A A' U U':Nat->Prop}{μ:Nat->Loc}{id:Nat}{v:Value}(h:yn E w A U μ (.own id) v) (hU:U' id):yn E w' A' U' μ (.own id) v:=by
 cases h with
 | own _ b off len cap _ hμ=>exact .own id b off len cap hU hμ
 | own0 _ a a2 _ hμ=>exact .own0 id a a2 hU hμ
theorem zG8 {A1:Nat->Prop}{μ1:Nat->Loc}{l:List Int}{w1:World}{v1:Value}(S:z9 A1 μ1 [Blk.row (E:=E) true (.int .i64) l] w1) (h0:yn E w1 (Av A1 μ1 [Blk.row (E:=E) true (.int .i64) l]) (Us [Blk.row (E:=E) true (.int .i64) l]) μ1 (.own 0) v1) (hlen:l.length<4294967296) :
  Calls Tryz.prog 203 #[v1] w1 fun e w2=>e= .returned (.tuple #[])/\z9 A1 μ1 [Blk.row (E:=E) true (.int .i64) (vr l)] w2/\Adv (Lv μ1 [Blk.row (E:=E) true (.int .i64) l]) w1 (Lv μ1 [Blk.row (E:=E) true (.int .i64) (vr l)]) w2:=by
 have hok:=S.ok 0;cases h0 with
 | own0 _ a1 a2 hU hμ =>
  have hl:l=[]:=by
   rcases hok with ⟨_,_,_,_,_,e1,_⟩ | ⟨e,_⟩
   .have e1:μ1 0=_:=e1;rw [hμ] at e1;cases e1
   .exact e
  subst hl;have e0:vr []=[]:=by unfold vr;simp
  refine (zGi a1 w1).mono ?_;rintro e w' ⟨rfl,rfl⟩;rw [e0];exact ⟨rfl,S,Adv.refl _ _⟩
 | own _ bk off len cap hU hμ =>
  obtain ⟨hA,hb⟩:=S.out 0 bk off len cap rfl hμ;obtain ⟨cc,vs,t,rfl,e2,h1,h2,h3,h4⟩:∃(cc:Array Value) (vs:Nat->Value) (t:TypeId),len=l.length/\w1.heap[bk]? =some (.cells cc t (0,0))/\l.length<=cap/\off+cap*1<=cc.size /\
    (∀i,i<l.length->∀j u,(vs i).cells[j]? =some u->cc[off+i*1+j]? =some u)/\∀i (h:i<l.length),yy E w1 (Av A1 μ1 [Blk.row true (.int .i64) l]) (.int .i64) (vs i) l[i]:=by
   rcases hok with ⟨b',off',cap',cc,vs,e1,⟨t,f,e2,e3⟩,h1,h2,h3,h4⟩ | ⟨_,a,e⟩
   .have e1:μ1 0=_:=e1;rw [hμ] at e1;injection e1 with q1 q2 q3 q4;subst q1;subst q2;subst q4;have e3:=e3 rfl;subst e3;exact ⟨cc,vs,t,q3,e2,h1,h2,h3,h4⟩
   .have e:μ1 0=_:=e;rw [hμ] at e;cases e
  have hcell:∀(j:Nat) (h:j<l.length),cc[off+j]? =some (.int .i64 l[j]):=fun j h=>by
   have r:=h4 j h;have q:=h3 j h 0;obtain ⟨z,hz⟩:∃z:Int,z=l[j]:=⟨_,rfl⟩
   rw [<-hz] at r ⊢;generalize vs j=vj at r q;cases r with
   | int k z =>
    have:=q _ rfl;rw [zLs,zLe] at this;exact this
  have hsz:l.toArray.size=l.length:=by simp
  have hH:Go.Sort.Holds (Value.int .i64) w1 bk off l.toArray:=fun j hj=>by
   have hj:j<l.length:=by rw [<-hsz];exact hj
   refine ⟨?_,?_⟩
   .unfold World.cell?;rw [e2];show cc[off+j]? =some (Value.int .i64 l.toArray[j]!);rw [hcell j hj,getElem!_pos l.toArray j (by rw [hsz];exact hj)];rfl
   .unfold World.frozen?;rw [e2];simp
  refine (zEn bk off cap l w1 hH hb hlen).mono ?_;rintro e w' ⟨rfl,n,os,rfl⟩;obtain ⟨hS,hAd⟩:=zDU S hμ hb e2 h1 h2 hcell n os;exact ⟨rfl,hS,hAd⟩
theorem zq7 {G:Nat->Prop}{W0:World}(hG:zr1 G W0):WC Tryz.prog G W0 150 ztb:=by
 intro A0 μ w args x y wd S hr hy;obtain ⟨l,⟨⟩⟩:=x;have hy:zpG l=some y:=hy;unfold zpG at hy;cases hc:decide (l.length<4294967296) with
 | false=>rw [hc] at hy;cases hy
 | true =>
 rw [hc] at hy;injection hy with hy;subst hy;have hlen:l.length<4294967296:=by simpa using hc
 have hcl:=zEV hG A0 μ w args (l,()) (l,()) wd S hr (zIi hlen);obtain ⟨v,rfl⟩:∃v,args= #[v]:=by
  have hl:=hr.1;have hl:1=args.toList.length:=hl
  match ha:args.toList,hl with
  | [v],_=>exact ⟨v,by rw [<-Array.toArray_toList (xs:=args),ha]⟩
 go_enter Tryz.func150,Tryz.ntmps150
 have hout:∀ {vs:List Value}{A1:Nat->Prop}{μ1:Nat->Loc}{w1:World},zEv A0 μ (yJ id zuD.inn (HL.toP zuD.inn.holes (l,()))).2 w zuD (zuD.go.to (l,())) vs A1 μ1 w1->∃v1,vs=[v1]/\yn E w1 (Av A1 μ1 [Blk.row (E:=E) true (.int .i64) l]) (Us [Blk.row (E:=E) true (.int .i64) l]) μ1 (.own 0) v1/\z9 A1 μ1 [Blk.row (E:=E) true (.int .i64) l] w1:=fun {vs A1 μ1 w1} oc=>by
  have hl:=oc.rep.1;have hl:1=vs.length:=hl
  match vs,hl,oc with
  | [v1],_,oc=>exact ⟨v1,rfl,oc.rep.2 0 (.own 0) v1 rfl rfl,oc.sim⟩
 go_wp2_with (first | (go_at_call 202;refine hcl.mono ?_;rintro e w1 ⟨vs,A1,μ1,rfl,oc⟩;obtain ⟨v1,rfl,h1,hS1⟩:=hout oc;have hso:=zG8 hS1 h1 hlen) | (go_at_call 203;refine hso.mono ?_;rintro e w2 ⟨rfl,hS2,hAd2⟩))
 go_ret
 exact ⟨[v1],A1,μ1,rfl,hS2,RL.cons (zIZ h1 rfl) RL.nil,oc.adv.trans hAd2,oc.up,fun b hb=>zKT (oc.low b hb) hAd2.size,fun j ws h=>by cases j<;>cases h⟩
end Go.Pe.G
namespace Go.Proofs
open Go.Shelf
def zxo:Go.Shelf.Ren:={f:=fun k=>if k=6 then 109 else if k=10 then 219 else k,g:=fun k=>k,t:=fun k=>if k=0 then 0 else if k=3 then 3 else if k=4 then 4 else if k=22 then 38 else if k=23 then 3 else if k=25 then 125 else k}
theorem zII:Bears Tryz.prog (zxo.f 6) (SlBodyH.n6 zxo):=Exists.intro ("slices.IndexFunc[[]int,int]") ⟨by kernel_rfl,by kernel_rfl⟩
theorem zIr:Bears Tryz.prog (zxo.f 10) (SlBodyH.n10 zxo):=Exists.intro ("slices.DeleteFunc[[]int,int]") ⟨by kernel_rfl,by kernel_rfl⟩
theorem zJv:SlLaysH.n10 Tryz.prog zxo:=by
 constructor<;>first | exact zII | exact zIr | kernel_rfl | (intro w;kernel_rfl)
def znL:Go.Shelf.Ren:={f:=fun k=>if k=4 then 204 else k,g:=fun k=>k,t:=fun k=>if k=0 then 0 else if k=3 then 3 else if k=4 then 4 else if k=9 then 9 else if k=20 then 20 else if k=22 then 102 else if k=25 then 3 else k}
theorem zI7:Bears Tryz.prog (znL.f 4) (Body8.n4 znL):=Exists.intro ("slices.Grow[besom/bag.Bag,int]") ⟨by kernel_rfl,by kernel_rfl⟩
theorem zGP:Lays8.n4 Tryz.prog znL:=by
 constructor<;>first | exact zI7 | kernel_rfl | (intro w;kernel_rfl)
end Go.Proofs
namespace Go.Pe.G
open Go.Pe Go.Proofs
theorem lv1 {μ:Nat->Loc}{l:List Int}{b:Nat}(h:Lv (E:=E) μ [.free,Blk.row true (.int .i64) l] b):∃off len cap,μ 1= .blk b off len cap:=by
 obtain ⟨id,off,len,cap,hl,hm⟩:=h
 match id with
 | 0=>cases hl
 | 1=>exact ⟨off,len,cap,hm⟩
 | id+2=>cases hl
theorem zKp {A0:Nat->Prop}{μ:Nat->Loc}{l:List Int}{w:World}{b off cap:Nat}{cc:Array Value}{t:TypeId}(h0:μ 1= .blk b off l.length cap) (hA: ¬A0 b) (e2:w.heap[b]? =some (.cells cc t (0,0))) (h1:l.length<=cap) (h2:off+cap<=cc.size)
  (hc:∀(i:Nat) (h:i<l.length),cc[off+i]? =some (.int .i64 l[i])):z9 A0 μ [.free,Blk.row (E:=E) true (.int .i64) l] w:=by
 refine ⟨fun id=>?_,fun i j b o l c b' o' l' c' ne hi hj=>?_,fun id b' o l' c ho hm=>?_⟩
 .match id with
  | 0=>exact trivial
  | 1 =>
   refine .inl ⟨b,off,cap,cc,fun i=>.int .i64 (l.getD i 0),h0,⟨t,(0,0),e2,fun _=>rfl⟩,h1,?_,fun i hi j u hu=>?_,fun i hi=>?_⟩
   .show off+cap*1<=cc.size;omega
   .have hi:i<l.length:=hi
    match j,hu with
    | 0,hu =>
     have hu:some (Value.int .i64 (l.getD i 0))=some u:=hu;injection hu with hu;subst hu;show cc[off+i*1+0]? =_;rw [zLs,zLe,hc i hi,zKw,zKv hi];rfl
    | j+1,hu=>cases hu
   .have hi:i<l.length:=hi;have e:l.getD i 0=l[i]:=by rw [zKw,zKv hi];rfl
    show yy E _ _ (.int .i64) (.int .i64 (l.getD i 0)) l[i];rw [e];exact .int .i64 _
  | id+2=>exact trivial
 .match i,j with
  | 0,_=>cases hi
  | 1,0=>cases hj
  | 1,1=>exact zj rfl ne
  | 1,j+2=>cases hj
  | i+2,_=>cases hi
 .match id with
  | 0=>cases ho
  | 1 =>
   have hm:μ 1=Loc.blk b' o l' c:=hm;rw [h0] at hm;injection hm with hm;subst hm;exact ⟨hA,(zKU.1 e2).1⟩
  | id+2=>cases ho
theorem zKj {A0:Nat->Prop}{μ:Nat->Loc}{w:World}{b cap:Nat}{cc:Array Value}{t:TypeId}(h0:μ 0= .blk b 0 0 cap) (hA: ¬A0 b) (e2:w.heap[b]? =some (.cells cc t (0,0))) (h2:cap<=cc.size):z9 A0 μ [Blk.row (E:=E) true (.int .i64) []] w:=by
 refine ⟨fun id=>?_,fun i j b o l c b' o' l' c' ne hi hj=>?_,fun id b' o l' c ho hm=>?_⟩
 .match id with
  | 0 =>
   refine .inl ⟨b,0,cap,cc,fun i=>.int .i64 0,h0,⟨t,(0,0),e2,fun _=>rfl⟩,zLH _,?_,fun i hi=>zj hi (Nat.not_lt_zero _),fun i hi=>zj hi (Nat.not_lt_zero _)⟩;show 0+cap*1<=cc.size;omega
  | id+1=>exact trivial
 .match i,j with
  | 0,0=>exact zj rfl ne
  | 0,j+1=>cases hj
  | i+1,_=>cases hi
 .match id with
  | 0 =>
   have hm:μ 0=Loc.blk b' o l' c:=hm;rw [h0] at hm;injection hm with hm;subst hm;exact ⟨hA,(zKU.1 e2).1⟩
  | id+1=>cases ho
theorem zJX {A0:Nat->Prop}{μ:Nat->Loc}{w:World}{a:Option Addr}(h0:μ 0= .none a):z9 A0 μ [Blk.row (E:=E) true (.int .i64) []] w:=by
 refine ⟨fun id=>?_,fun i j b o l c b' o' l' c' ne hi hj=>?_,fun id b' o l' c ho hm=>?_⟩
 .match id with
  | 0=>exact .inr ⟨rfl,a,h0⟩
  | id+1=>exact trivial
 .match i,j with
  | 0,0=>exact zj rfl ne
  | 0,j+1=>cases hj
  | i+1,_=>cases hi
 .match id with
  | 0 =>
   have hm:μ 0=Loc.blk b' o l' c:=hm;rw [h0] at hm;cases hm
  | id+1=>cases ho
theorem zJz {A0:Nat->Prop}{μ:Nat->Loc}{l:List Int}{w:World}(S:z9 A0 μ [Blk.row (E:=E) true (.int .i64) l] w) {bk off len cap:Nat}(hμ:μ 0= .blk bk off len cap) :
  ¬A0 bk/\bk<w.heap.size/\len=l.length/\∃(cc:Array Value) (t:TypeId),w.heap[bk]? =some (.cells cc t (0,0))/\l.length<=cap/\off+cap<=cc.size/\∀(j:Nat) (h:j<l.length),cc[off+j]? =some (.int .i64 l[j]):=by
 obtain ⟨hA,hb⟩:=S.out 0 bk off len cap rfl hμ;refine ⟨hA,hb,?_⟩;rcases S.ok 0 with ⟨b',off',cap',cc,vs,e1,⟨t,f,e2,e3⟩,h1,h2,h3,h4⟩ | ⟨_,a,e⟩
 .have e1:μ 0=_:=e1;rw [hμ] at e1;injection e1 with q1 q2 q3 q4;subst q1;subst q2;subst q4;have e3:=e3 rfl;subst e3;have h2:off+cap*1<=cc.size:=h2;refine ⟨q3,cc,t,e2,h1,by omega,fun j h=>?_⟩;have r:=h4 j h;have q:=h3 j h 0;obtain ⟨z,hz⟩:∃z:Int,z=l[j]:=⟨_,rfl⟩
  have r:yy E w _ (.int .i64) (vs j) l[j]:=r;rw [<-hz] at r ⊢;generalize vs j=vj at r q;cases r with
  | int k z =>
   have:=q _ rfl;have this:cc[off+j*1+0]? =_:=this;rw [zLs,zLe] at this;exact this
 .have e:μ 0=_:=e;rw [hμ] at e;cases e
theorem zFn (W:World) (x:Int):Calls Tryz.prog 220 #[.int .i64 x] W fun e w'=>e= .returned (.bool (decide (x=0)))/\w'=W:=by
 go_enter Tryz.func220,Tryz.ntmps220
 go_wp2
 go_ret
 exact ⟨rfl,rfl⟩
theorem zui {G:Nat->Prop}{W0:World}(hG:zr1 G W0):WC Tryz.prog G W0 199 zAh:=by
 intro A0 μ w args x y wd S hr hy;obtain ⟨l,⟨⟩⟩:=x;have hy:zw8 l=some y:=hy;unfold zw8 at hy;cases hc:(decide (0<l.length)&&decide (l.length<4294967296)) with
 | false=>rw [hc] at hy;cases hy
 | true =>
 rw [hc] at hy;injection hy with hy;subst hy;simp only [zKu,decide_eq_true_eq] at hc;obtain ⟨hpos,hlen⟩:=hc;obtain ⟨v,rfl,h0⟩:∃v,args= #[v]/\yn E w (Av A0 μ [Blk.row true (.int .i64) l]) (Us [Blk.row true (.int .i64) l]) μ (.own 0) v:=by
  have hl:=hr.1;have hl:1=args.toList.length:=hl
  match ha:args.toList,hl with
  | [v],_=>exact ⟨v,by rw [<-Array.toArray_toList (xs:=args),ha],hr.2 0 (.own 0) v rfl (by rw [ha];rfl)⟩
 have S:z9 A0 μ [Blk.row true (.int .i64) l] w:=S;cases h0 with
 | own0 _ a1 a2 hU hμ =>
  exfalso;rcases S.ok 0 with ⟨_,_,_,_,_,e1,_⟩ | ⟨e,_⟩
  .have e1:μ 0=_:=e1;rw [hμ] at e1;cases e1
  .rw [e] at hpos;cases hpos
 | own _ bk off len cap hU hμ =>
  obtain ⟨hA,hb,rfl,cc,t,e2,h1,h2,hcell⟩:=zJz S hμ;have hsz:l.toArray.size=l.length:=by simp
  have hH:Go.Sort.Holds (Value.int .i64) w bk off l.toArray:=fun j hj=>by
   have hj:j<l.length:=by rw [<-hsz];exact hj
   refine ⟨?_,?_⟩
   .unfold World.cell?;rw [e2];show cc[off+j]? =some (Value.int .i64 l.toArray[j]!);rw [hcell j hj,getElem!_pos l.toArray j (by rw [hsz];exact hj)];rfl
   .unfold World.frozen?;rw [e2];simp
  have fg:∀(W:World) (x:Int),FnGives Tryz.prog 220 #[] #[.int .i64 x] (.bool (decide (x=0))) W:=fun W x=>(zFn W x).mono (by rintro e w' ⟨rfl,rfl⟩;exact ⟨rfl,0,rfl⟩);have eg:∀args w,(callFunc 220 args).run Tryz.prog w= .ok (.enter 220 args) w:=enters_of Tryz.func220 (by kernel_rfl) rfl;have hd:=AnyE.slices_DeleteFunc zJv (Value.int .i64) (fun _=>rfl) (fun x:Int=>decide (x=0)) 220 #[] eg 0 (fun w=>by kernel_rfl) bk off cap l.toArray w (fun W x _=>fg W x) (fun n os dk x _=>fg _ x) hH (by rw [hsz];omega) (by rw [hsz];exact h1);rw [hsz] at hd;rw [show l.toArray.toList=l from rfl] at hd;have hf:(l.filter fun x=> !decide (x=0)).length<=l.length:=zLI _ _;clear eg fg;generalize hm:(l.filter fun x=> !decide (x=0))=m at hd hf ⊢;have hd:Calls Tryz.prog 219 #[.slice (some ⟨bk,off,none⟩) l.length cap,.func (.func 220) #[] #[]] w fun e w'=>e= .returned (.slice (some ⟨bk,off,none⟩) m.length cap)/\∃q,w'=Go.Sort.putRow (Value.int .i64) (Go.Sort.ahead w q) bk off (m++List.replicate (l.length-m.length) 0).toArray:=hd
  go_enter Tryz.func199,Tryz.ntmps199
  go_wp2_with (go_at_call 219;refine hd.mono ?_;rintro e w' ⟨rfl,q,rfl⟩)
  go_ret
  have hheap:∀k,(Go.Sort.putRow (Value.int .i64) (Go.Sort.ahead w q) bk off (m++List.replicate (l.length-m.length) 0).toArray).heap[k]? =if bk=k then some (.cells (Go.Sort.putCells (Value.int .i64) off (m++List.replicate (l.length-m.length) 0).toArray cc) t (0,0)) else w.heap[k]? :=fun k=>by
   unfold Go.Sort.putRow Go.Sort.mapBlock Go.Sort.ahead;dsimp only;rw [Array.getElem?_modify];split
   .rename_i h;subst h;rw [e2];rfl
   .rfl
  have hput:∀(i:Nat) (h:i<m.length),(Go.Sort.putCells (Value.int .i64) off (m++List.replicate (l.length-m.length) 0).toArray cc)[off+i]? =some (.int .i64 m[i]):=fun i h=>by
   unfold Go.Sort.putCells;rw [Array.getElem?_mapIdx,hcell i (by omega),zLx,zb ⟨by omega,by simp;omega⟩,show off+i-off=i by omega,getElem!_pos _ i (by simp;omega)];simp [zMm h]
  have hsize:(Go.Sort.putRow (Value.int .i64) (Go.Sort.ahead w q) bk off (m++List.replicate (l.length-m.length) 0).toArray).heap.size=w.heap.size:=by simp
  refine ⟨[.slice (some ⟨bk,off,none⟩) m.length cap],A0,fun id=>if id=1 then .blk bk off m.length cap else μ id,rfl,?_,RL.cons (.own 1 bk off m.length cap rfl rfl) RL.nil,⟨rfl,rfl,rfl,by rw [hsize];exact zKz _,fun b hb2 hn=>?_,fun b _ h=>?_⟩,fun _ h=>h,fun b h=>by rw [hsize];exact wd.low b h,fun j ws h=>by
   cases j with
   | zero=>cases h
   | succ j=>cases h⟩
  .show z9 A0 _ [.free,Blk.row true (.int .i64) m] _;have hmc:m.length<=cap:=zLB hf h1;refine zKp (b:=bk) (off:=off) (cap:=cap) (t:=t) rfl hA (by rw [hheap,zb rfl]) hmc ?_ hput;unfold Go.Sort.putCells;rw [Array.size_mapIdx];exact h2
  .rw [hheap,zc];rintro rfl;exact hn ⟨0,off,l.length,cap,rfl,hμ⟩
  .obtain ⟨o,n,c,e⟩:=lv1 h;have e:Loc.blk bk off m.length cap= .blk b o n c:=e;injection e with e;subst e;exact ⟨0,off,l.length,cap,rfl,hμ⟩
theorem zE4 (a:Option Addr) (k:Nat) (w:World) (h0:0<k) (hk:k<4294967296):Calls Tryz.prog 204 #[.slice a 0 0,.int .i64 (k:Int)] w fun e w'=>∃(G:Nat) (cc:Array Value) (t:TypeId),G<=cc.size/\e= .returned (.slice (some ⟨w.heap.size,0,none⟩) 0 G)/\w'=w.drew.alloc (.cells cc t):=by
 obtain ⟨i0,hi⟩:=zMk.1 (show (Tryz.prog.info? (znL.t 25)).isSome=true by kernel_rfl);have h2:(Tryz.prog.info? (znL.t 25)).map TypeInfo.size=some 1:=by kernel_rfl
 have h3:(Tryz.prog.info? (znL.t 25)).map TypeInfo.bytes=some 8:=by kernel_rfl
 have h4:(Tryz.prog.info? (znL.t 25)).map TypeInfo.zero=some (some (.int .i64 0)):=by kernel_rfl
 rw [hi] at h2 h3 h4;simp only [zLx,Option.some.injEq] at h2 h3 h4;have hd:=Any8.slices_Grow_grow zGP i0 (.int .i64 0) hi h4 (by rw [h2];decide) a 0 0 k [] w (zKz _) (by omega) (by rw [h3];omega) (by omega) (by simp) (fun _=>rfl) (fun b _ j v h=>by cases h);refine hd.mono ?_;rintro e w' ⟨rfl,rfl⟩;refine ⟨_,_,_,?_,rfl,rfl⟩;have hg:=grownCap_ge w (0+k) 0 (znL.t 25);have z1:(Value.int IntKind.i64 0).cells.size=1:=rfl;simp only [Array.size_append,Builtin.zeroCells,Array.size_map,Array.size_range,z1];simp;omega
theorem zDb {G:Nat->Prop}{W0:World}(hG:zr1 G W0):WC Tryz.prog G W0 204 zD0:=by
 intro A0 μ w args x y wd S hr hy;obtain ⟨n,⟨⟩⟩:=x;have hy:zv3 n=some y:=hy;unfold zv3 at hy;cases hc:(decide (0<=n)&&decide (n<4294967296)) with
 | false=>rw [hc] at hy;cases hy
 | true =>
 rw [hc] at hy;injection hy with hy;subst hy;simp only [zKu,decide_eq_true_eq] at hc;obtain ⟨hn0,hn1⟩:=hc;obtain ⟨k,hk0⟩:=Int.eq_ofNat_of_zero_le hn0;have hk1:k<4294967296:=by
  have h: @Eq Int n (k:Int):=hk0;have h2: @LT.lt Int _ n (4294967296:Int):=hn1;omega
 subst hk0;obtain ⟨a,rfl⟩:∃a,args= #[.slice a 0 0,.int .i64 (k:Int)]:=by
  have hl:=hr.1;have hl:2=args.toList.length:=hl
  match ha:args.toList,hl with
  | [v,v1],_ =>
   have h0:=hr.2 0 .nils v rfl (by rw [ha];rfl);have h1:=hr.2 1 (.v (.int .i64) (k:Int)) v1 rfl (by rw [ha];rfl);have e1:v1= .int .i64 (k:Int):=by
    cases h1 with
    | v _ _ _ h=>cases h with
     | int k z=>rfl
   subst e1;cases h0 with
   | nils a=>exact ⟨a,by rw [<-Array.toArray_toList (xs:=args),ha]⟩
 have S:z9 A0 μ ([]:List (Blk E)) w:=S;by_cases hk:k=0
 .subst hk;refine (Any8.slices_Grow_room zGP a 0 0 0 w (zKz _) (by omega) (by omega) (by omega)).mono ?_;rintro e w' ⟨rfl,rfl⟩;refine ⟨[.slice a 0 0],A0,fun _=>.none a,rfl,zJX rfl,RL.cons (.own0 0 a a rfl rfl) RL.nil,⟨rfl,rfl,rfl,zKz _,fun b _ _=>rfl,fun b _ h=>?_⟩,fun _ h=>h,wd.low,fun j ws h=>by cases h⟩;obtain ⟨id,off,len,cap,_,hm⟩:=h;cases hm
 .refine (zE4 a k w (by omega) hk1).mono ?_;rintro e w' ⟨N,cc,t,hN,rfl,rfl⟩;have hat:(w.drew.alloc (.cells cc t)).heap[w.heap.size]? =some (.cells cc t (0,0)):=by
   show (w.heap.push _)[w.heap.size]? =_;simp
  have hold:∀b,b<w.heap.size->(w.drew.alloc (.cells cc t)).heap[b]? =w.heap[b]? :=fun b hb=>by
   show (w.heap.push _)[b]? =_;rw [zL3,zk]
  have hsz:(w.drew.alloc (.cells cc t)).heap.size=w.heap.size+1:=by simp
  refine ⟨[.slice (some ⟨w.heap.size,0,none⟩) 0 N],A0,fun _=>.blk w.heap.size 0 0 N,rfl,zKj rfl (fun h=>by have:=wd.low _ h;omega) hat hN,RL.cons (.own 0 w.heap.size 0 0 N rfl rfl) RL.nil,⟨rfl,rfl,rfl,by rw [hsz];omega,fun b hb _=>hold b hb,fun b hb h=>?_⟩,fun _ h=>h,fun b h=>by have:=wd.low b h;rw [hsz];omega,fun j ws h=>by cases h⟩;obtain ⟨id,off,len,cap,_,hm⟩:=h;injection hm with hm;omega
theorem zyZ (n:Int) (s:za) (ys:List (List Int)) (hs:s.Ws.length<1000000):∀(f i:Nat) (l pre:List (List Int)),i+f=s.Ws.length->zyt s f (i:Int)=some l->(∃post,ys=pre++l++post) ->
  yZ (Ui ys) (f+1) (n,(pre.length:Int),(s.Ws.length:Int),(i:Int),s,())=some (.brk (n,((pre++l).length:Int),s,()))
 | 0,i,l,pre,hi,h,e=>by
  injection h with h;subst h;rw [yZ,zjm,show decide ((i:Int)<(s.Ws.length:Int))=false by rw [decide_eq_false_iff_not];omega];simp
 | f+1,i,l,pre,hi,h,⟨post,e⟩=>by
  simp only [zyt,zKF] at h;obtain ⟨a,h1,l',h2,h3⟩:=h;injection h3 with h3;subst h3;have ei:w64 ((i:Int)+1)=((i+1:Nat):Int):=by rw [zv4 (by omega) (by omega)];omega
  have hn:XL ys (pre.length:Int) a.1=some ():=by rw [e,zKD];exact ziR pre (l'++post) _
  rw [yZ,zjm,show decide ((i:Int)<(s.Ws.length:Int))=true by rw [decide_eq_true_eq];omega,ei,show ((i+1:Nat):Int)=(i:Int)+1 by omega,h1];simp only [zu,zKt,hn];have:=zyZ n s ys hs f (i+1) l' (pre++[a.1]) (by omega) (by rw [show ((i+1:Nat):Int)=(i:Int)+1 by omega];exact h2) ⟨post,by rw [e];simp⟩;simpa using this
theorem zyV (n:Int) (s:za) (ys:List (List Int)) (hs:s.Ms.length<1000000):∀(f i:Nat) (l pre:List (List Int)),i+f=s.Ms.length->zx1 s f (i:Int)=some l->(∃post,ys=pre++l++post) ->
  yZ (zco ys) (f+1) (n,(pre.length:Int),(s.Ms.length:Int),(i:Int),s,())=some (.brk (n,((pre++l).length:Int),()))
 | 0,i,l,pre,hi,h,e=>by
  injection h with h;subst h;rw [yZ,zjl,show decide ((i:Int)<(s.Ms.length:Int))=false by rw [decide_eq_false_iff_not];omega];simp
 | f+1,i,l,pre,hi,h,⟨post,e⟩=>by
  simp only [zx1,zKF] at h;obtain ⟨a,h1,l',h2,h3⟩:=h;injection h3 with h3;subst h3;have ei:w64 ((i:Int)+1)=((i+1:Nat):Int):=by rw [zv4 (by omega) (by omega)];omega
  have hn:XL ys (pre.length:Int) a.1=some ():=by rw [e,zKD];exact ziR pre (l'++post) _
  rw [yZ,zjl,show decide ((i:Int)<(s.Ms.length:Int))=true by rw [decide_eq_true_eq];omega,ei,show ((i+1:Nat):Int)=(i:Int)+1 by omega,h1];simp only [zu,zKt,hn];have:=zyV n s ys hs f (i+1) l' (pre++[a.1]) (by omega) (by rw [show ((i+1:Nat):Int)=(i:Int)+1 by omega];exact h2) ⟨post,by rw [e];simp⟩;simpa using this
theorem zvo (n:Int) (x:HL E.T zdk.holes) (ys:List (List Int)) (h:zc2.F x=some ys):zpr (Xi ys) Tryz.f146 zdk n x=some (ys.length:Int):=by
 obtain ⟨a1,a2,a3,a4,a5,a6,a7,a8,a9,a10,a11,a12,a13,a14,a15,a16,a17,a18,a19,a20,a21,a22,a23,a24,a25,a26,a27,a28,a29,a30,a31,a32,a33,a34,⟨⟩⟩:=x;refine Eq.trans (zwH n ys a1 a2 a3 a4 a5 a6 a7 a8 a9 a10 a11 a12 a13 a14 a15 a16 a17 a18 a19 a20 a21 a22 a23 a24 a25 a26 a27 a28 a29 a30 a31 a32 a33 a34) ?_;have h:zwc (za.mk (zd.mk a1 a2 a3 a4 a5 a6 a7 a8 (zt.mk a9 a10) a11 a12 a13 a14) (zt.mk a15 a16) a17 a18 (zx.mk a19 a20) a21 a22 a23 a24 a25 a26 (zy.mk a27 a28 a29 a30) a31 a32 (zO.mk a33 a34))=some ys:=h;show ((zcI (za.mk (zd.mk a1 a2 a3 a4 a5 a6 a7 a8 (zt.mk a9 a10) a11 a12 a13 a14) (zt.mk a15 a16) a17 a18 (zx.mk a19 a20) a21 a22 a23 a24 a25 a26 (zy.mk a27 a28 a29 a30) a31 a32 (zO.mk a33 a34))).bind fun y1=>(XL ys 0 y1.1).bind fun _ =>
  (yf (Ui ys) (n,0+1,((za.mk (zd.mk a1 a2 a3 a4 a5 a6 a7 a8 (zt.mk a9 a10) a11 a12 a13 a14) (zt.mk a15 a16) a17 a18 (zx.mk a19 a20) a21 a22 a23 a24 a25 a26 (zy.mk a27 a28 a29 a30) a31 a32 (zO.mk a33 a34)).Ws.length:Int),0,za.mk (zd.mk a1 a2 a3 a4 a5 a6 a7 a8 (zt.mk a9 a10) a11 a12 a13 a14) (zt.mk a15 a16) a17 a18 (zx.mk a19 a20) a21 a22 a23 a24 a25 a26 (zy.mk a27 a28 a29 a30) a31 a32 (zO.mk a33 a34),())).bind _)=_
 generalize za.mk (zd.mk a1 a2 a3 a4 a5 a6 a7 a8 (zt.mk a9 a10) a11 a12 a13 a14) (zt.mk a15 a16) a17 a18 (zx.mk a19 a20) a21 a22 a23 a24 a25 a26 (zy.mk a27 a28 a29 a30) a31 a32 (zO.mk a33 a34)=s at h ⊢;unfold zwc at h;cases hc:(decide (s.Ws.length<1000000)&&decide (s.Ms.length<1000000)) with
 | false=>rw [hc] at h;cases h
 | true =>
 rw [hc,zu] at h;simp only [zKu,decide_eq_true_eq] at hc;simp only [zKF] at h;obtain ⟨a,e1,b,e2,c,e3,e4⟩:=h;injection e4 with e4;have k2:=ziS _ _ vZ _ (zyZ n s ys hc.1 s.Ws.length 0 b [a.1] (by omega) e2 ⟨c,by rw [<-e4];simp⟩) (by unfold vZ;omega);have k7:=ziS _ _ vZ _ (zyV n s ys hc.2 s.Ms.length 0 c (a.1::b) (by omega) e3 ⟨[],by rw [<-e4];simp⟩) (by unfold vZ;omega);have k2:yZ (Ui ys) vZ (n,0+1,(s.Ws.length:Int),0,s,())=some (.brk (n,(((a.1::b).length:Nat):Int),s,())):=k2;have k7:yZ (zco ys) vZ (n,(((a.1::b).length:Nat):Int),(s.Ms.length:Int),0,s,())=some (.brk (n,(((a.1::b)++c).length:Int),())):=k7;have hn:XL ys 0 a.1=some ():=by rw [<-e4];exact ziR [] (b++c) _
 rw [e1,zKt,hn,zKt,Xh,k2,zKt];dsimp only;rw [Xh,k7,zKt];dsimp only;rw [<-e4];rfl
end Go.Pe.G
namespace Go.Pe.G
open Go.Pe Go.Proofs
theorem k2 {G:Nat->Prop}{W0:World}{f:Nat}{s:zL E}{ss r} (hs:WC Tryz.prog G W0 f s) (h:Oks Tryz.prog G W0 ((f,ss)::r)) (hc:Xg Tryz.prog f=true:=by kernel_rfl):Oks Tryz.prog G W0 ((f,s::ss)::r):= .cons _ _ _ _ hc hs h
theorem k1 {G:Nat->Prop}{W0:World}{f:Nat}{s:zL E}{r} (hs:WC Tryz.prog G W0 f s) (h:Oks Tryz.prog G W0 r) (hc:Xg Tryz.prog f=true:=by kernel_rfl):Oks Tryz.prog G W0 ((f,[s])::r):= .cons _ _ _ _ hc hs (.skip _ _ h)
abbrev Sd (G:Nat->Prop) (W0:World):=WC (E:=E) Tryz.prog G W0
theorem gs {G:Nat->Prop}{W0:World}{l:List (Nat×List (zL E))}{loops mv kept pk its} {f:FuncId}{fn:Func}{inn out:wx}{gi go:List Grp}{hi:Yo E gi=inn.holes} {ho:Yo E go=out.holes} (h:Oks Tryz.prog G W0 l) (h2:Its Tryz.prog G W0 its) (hf:Tryz.prog.funcs[f]? =some fn:=by kernel_rfl) (hb:fn.body.isSome=true:=by kernel_rfl)
  (hk:(cf l loops mv kept pk its).kept=zkH inn.blks 0:=by kernel_rfl) (hn:Nat.ble inn.vals.length fn.ntmps=true:=by kernel_rfl):WC Tryz.prog G W0 f (sp (cf l loops mv kept pk its) fn inn out gi go hi ho):=zy7 (C:=cf l loops mv kept pk its) zsm (zww h) rfl (zAD h2) zxe hf hb hk hn
variable {G:Nat->Prop}{W0:World}(hG:zr1 G W0)
include hG
theorem Wl:Sd G W0 51 UY:=gs .nil .nil
theorem zoO:Sd G W0 101 zeS:=gs .nil .nil
theorem Wo:Sd G W0 109 vm:=gs (k1 (zoO hG) .nil) .nil
theorem Xt:Sd G W0 71 wS:=gs (k1 (Wo hG) .nil) .nil
theorem zqW:Sd G W0 100 zh3:=gs (k1 (Xt hG) .nil) .nil
theorem Wt:Sd G W0 156 vk:=gs (k1 (zqW hG) .nil) .nil
theorem XM:Sd G W0 102 wT:=gs (k1 (Wt hG) .nil) .nil
theorem zcN:Sd G W0 60 zcU:=gs (k1 (XM hG) .nil) .nil
theorem Wv:Sd G W0 65 UG:=gs .nil .nil
theorem zb2:Sd G W0 70 zbJ:=gs .nil .nil
theorem zm7:Sd G W0 69 zdH:=gs (k1 (zb2 hG) .nil) .nil
theorem zqb:Sd G W0 72 zhn:=gs (k1 (zb2 hG) .nil) .nil
theorem W3:Sd G W0 109 vD:=gs (k1 (zqb hG) .nil) .nil
theorem Wc:Sd G W0 71 vb:=gs (k1 (W3 hG) .nil) .nil
theorem zq3:Sd G W0 159 zhC:=gs .nil .nil
theorem zr4:Sd G W0 112 zmi:=gs (k1 (zq3 hG) .nil) .nil
theorem zrC:Sd G W0 111 zkf:=gs (k1 (zr4 hG) .nil) .nil
theorem Y5:Sd G W0 158 wB:=gs (k1 (zrC hG) .nil) .nil
theorem YR:Sd G W0 110 wm:=gs (k1 (Y5 hG) .nil) .nil
theorem ztr:Sd G W0 73 zoT:=gs (k1 (YR hG) .nil) .nil
theorem ziZ:Sd G W0 44 zf1:=gs .nil .nil
theorem zqJ:Sd G W0 114 zia:=gs (k1 (ziZ hG) .nil) .nil
theorem Yw:Sd G W0 160 wb:=gs (k1 (zqJ hG) .nil) .nil
theorem Z8:Sd G W0 113 xT:=gs (k1 (Yw hG) .nil) .nil
theorem zsP:Sd G W0 74 zmD:=gs (k1 (Z8 hG) .nil) .nil
theorem zrQ:Sd G W0 24 zmk:=gs (k1 (Wl hG) (k1 (zcN hG) (k1 (Wv hG) (k1 (zm7 hG) (k1 (zb2 hG) (k1 (Wc hG) (k1 (ztr hG) (k1 (zsP hG) .nil)))))))) .nil
theorem zn4:Sd G W0 68 znJ:=gs .nil .nil
theorem XY:Sd G W0 22 zaX:=gs (k1 (zn4 hG) .nil) .nil
theorem zdr:Sd G W0 75 zh2:=gs (k1 (XY hG) .nil) .nil
theorem zjf:Sd G W0 25 zgA:=gs (k1 (zdr hG) .nil) .nil
theorem zlN:Sd G W0 76 zcH:=gs .nil .nil
theorem zdF:Sd G W0 26 zdW:=gs (k1 (zlN hG) .nil) .nil
theorem zsw:Sd G W0 27 zmR:=gs .nil .nil
theorem xz:Sd G W0 29 xI:=gs .nil .nil
theorem Vg:Sd G W0 28 vN:=gs (k1 (xz hG) .nil) .nil
theorem zrv:Sd G W0 30 zjz:=gs .nil .nil
theorem zb6:Sd G W0 31 zbD:=gs .nil .nil
theorem Y3:Sd G W0 32 X1:=gs .nil .nil
theorem ztX:Sd G W0 33 zop:=gs .nil .nil
theorem zgN:Sd G W0 34 VS:=gs .nil .nil
theorem zvv:Sd G W0 78 zqf:=gs .nil .nil
theorem zwe:XN Tryz.prog G W0 115 zcO:=zvb G W0 hG
theorem zl1:Sd G W0 35 zlb:=gs (k1 (zvv hG) .nil) (.cons _ _ _ (zwe hG) (.nil))
theorem zvu:Sd G W0 161 zqV:=gs .nil .nil
theorem zvd:Sd G W0 162 zqG:=gs .nil .nil
theorem zuI:Sd G W0 163 zqX:=gs .nil .nil
theorem zvq:Sd G W0 164 zqd:=gs .nil .nil
theorem zdn:Sd G W0 165 YV:=gs .nil .nil
theorem Y8:Sd G W0 117 zbo:=gs (k1 (zvu hG) (k1 (zvd hG) (k1 (zuI hG) (k1 (zvq hG) (k1 (zdn hG) .nil))))) .nil
theorem zg1:Sd G W0 79 zeC:=gs (k1 (Y8 hG) .nil) .nil
theorem zjv:Sd G W0 80 zfA:=gs .nil .nil
theorem ztF:Sd G W0 36 zon:=gs (k1 (zg1 hG) (k1 (zjv hG) .nil)) .nil
theorem Ya:Sd G W0 37 Xv:=gs .nil .nil
theorem Y1:Sd G W0 39 X2:=gs (k1 (Ya hG) .nil) .nil
theorem Yc:Sd G W0 38 Xz:=gs (k1 (Y1 hG) .nil) .nil
theorem zgQ:XN Tryz.prog G W0 77 uu:=zfC G W0 hG
theorem zkw:Sd G W0 6 ziC:=gs (k1 (zrQ hG) (k1 (zjf hG) (k1 (zdF hG) (k1 (zsw hG) (k1 (Vg hG) (k1 (xz hG) (k1 (zrv hG) (k1 (zb6 hG) (k1 (Y3 hG) (k1 (ztX hG) (k1 (zgN hG) (k1 (zl1 hG) (k1 (ztF hG) (k1 (Ya hG) (k1 (Yc hG) (k1 (Y1 hG) .nil)))))))))))))))) (.cons _ _ _ (zgQ hG) (.nil))
theorem zuL:Sd G W0 45 zq2:=gs (k1 (zdF hG) (k1 (zdr hG) .nil)) .nil
theorem zuE:Sd G W0 86 zqF:=gs .nil .nil
theorem zec:Sd G W0 151 Xs:=gs (k1 (zDb hG) .nil) .nil
theorem zwW:Sd G W0 87 zr5:=gs (k1 (zq7 hG) (k1 (zec hG) .nil)) .nil
theorem XG:Sd G W0 217 Vc:=gs .nil .nil
theorem zcZ:Sd G W0 218 zc3:=gs (k1 (Y8 hG) .nil) .nil
theorem zs5:Sd G W0 196 zmv:=gs (k1 (XG hG) (k1 (zcZ hG) .nil)) .nil
theorem zeF:Sd G W0 197 zf6:=gs (k1 (zq7 hG) .nil) .nil
theorem zsz:Sd G W0 147 zlB:=gs (k1 (Ya hG) (k1 (Yc hG) (k1 (zs5 hG) (k1 (zeF hG) .nil)))) .nil
theorem zrl:Sd G W0 198 zjA:=gs (k1 (Y3 hG) (k1 (Y8 hG) .nil)) .nil
theorem zgH:Sd G W0 153 ziH:=gs .nil .nil
theorem ziP:Sd G W0 200 zfG:=gs (k1 (zgH hG) .nil) .nil
theorem ua:Sd G W0 221 ZZ:=gs (k1 (Y8 hG) .nil) .nil
theorem uK:Sd G W0 222 uJ:=gs .nil .nil
theorem wa:Sd G W0 223 wg:=gs .nil .nil
theorem zb8:Sd G W0 224 zbG:=gs .nil .nil
theorem X3:Sd G W0 225 YE:=gs .nil .nil
theorem ZK:Sd G W0 226 uO:=gs (k1 (X3 hG) .nil) .nil
theorem zrk:Sd G W0 201 zjU:=gs (k1 (ua hG) (k1 (uK hG) (k1 (wa hG) (k1 (zb8 hG) (k1 (X3 hG) (k1 (ZK hG) .nil)))))) .nil
theorem zrz:Sd G W0 148 zj5:=gs (k1 (xz hG) (k1 (Y3 hG) (k1 (zeF hG) (k1 (zrl hG) (k1 (zui hG) (k1 (ziP hG) (k1 (zrk hG) .nil))))))) .nil
theorem zju:Sd G W0 152 zfJ:=gs .nil .nil
theorem zqz:Sd G W0 149 zg9:=gs (k1 (xz hG) (k1 (zju hG) (k1 (zeF hG) (k1 (zui hG) (k1 (ziP hG) .nil))))) .nil
theorem zvQ:XN Tryz.prog G W0 146 zc2:=by
 obtain ⟨c,hc⟩:=zMk.1 zJa;exact zp0 (Cg:=Xi []) rfl zsm (fun f s hs=>Oks.at (k1 (zsz hG) (k1 (zrz hG) (k1 (zqz hG) .nil))) f s hs) rfl zxe (fun g it h=>by cases h) zI3 zJ7 hc zc2 (zK8 (by kernel_rfl)) rfl zvo
theorem zdS:Sd G W0 46 zdV:=gs (k1 (zuE hG) (k1 (zwW hG) .nil)) (.cons _ _ _ (zvQ hG) (.nil))
theorem zcW:Sd G W0 47 zcT:=gs .nil .nil
theorem zdQ:Sd G W0 9 zeo:=gs (k1 (zuL hG) (k1 (zdS hG) (k1 (zcW hG) .nil))) .nil
theorem ze8:Sd G W0 88 zb9:=gs (k1 (zju hG) .nil) .nil
theorem ztS:Sd G W0 89 zos:=gs (k1 (zgH hG) .nil) .nil
theorem ztQ:Sd G W0 48 zoK:=gs (k1 (ze8 hG) (k1 (ztS hG) .nil)) .nil
theorem zb4:Sd G W0 10 zbF:=gs (k1 (zdS hG) (k1 (ztQ hG) .nil)) .nil
theorem zou:Sd G W0 90 zeH:=gs (k1 (XY hG) .nil) .nil
theorem zcm:Sd G W0 67 zfl:=gs (k1 (zn4 hG) .nil) .nil
theorem zpZ:Sd G W0 92 zhd:=gs .nil .nil
theorem zdL:Sd G W0 91 Xc:=gs (k1 (zl1 hG) (k1 (Wv hG) (k1 (zcm hG) (k1 (zpZ hG) .nil)))) .nil
theorem zcA:Sd G W0 49 zct:=gs (k1 (zou hG) (k1 (zdL hG) .nil)) .nil
theorem ztv:Sd G W0 93 zoQ:=gs (k1 (zgH hG) .nil) .nil
theorem zbu:Sd G W0 50 zaD:=gs (k1 (XY hG) (k1 (zdr hG) (k1 (ze8 hG) (k1 (ztv hG) .nil)))) .nil
theorem zkA:Sd G W0 52 ziA:=gs (k1 (zjf hG) (k1 (zcA hG) .nil)) .nil
theorem zdC:Sd G W0 11 zd7:=gs (k1 (zcW hG) (k1 (zcA hG) (k1 (zbu hG) (k1 (Wl hG) (k1 (zkA hG) .nil))))) .nil
theorem znx:Sd G W0 55 znP:=gs (k1 (Wv hG) .nil) .nil
theorem zdJ:Sd G W0 19 zel:=gs (k1 (znx hG) (k1 (Wv hG) .nil)) .nil
theorem zs1:Sd G W0 53 zl0:=gs (k1 (Wl hG) (k1 (Wv hG) .nil)) .nil
theorem zb0:Sd G W0 12 zbH:=gs (k1 (zdJ hG) (k1 (Wl hG) (k1 (zkA hG) (k1 (zs1 hG) .nil)))) .nil
theorem zp5:Sd G W0 56 zhx:=gs .nil .nil
theorem zss:Sd G W0 54 zlR:=gs .nil .nil
theorem Wy:Sd G W0 94 vn:=gs (k1 (zss hG) .nil) .nil
theorem XD:Sd G W0 57 wR:=gs (k1 (Wy hG) .nil) .nil
theorem ze0:Sd G W0 13 zgD:=gs (k1 (zdJ hG) (k1 (zdF hG) (k1 (znx hG) (k1 (zp5 hG) (k1 (XD hG) .nil))))) .nil
theorem zqR:Sd G W0 95 zh4:=gs .nil .nil
theorem ZS:Sd G W0 154 xN:=gs (k1 (zqR hG) .nil) .nil
theorem Zr:Sd G W0 97 xE:=gs (k1 (ZS hG) .nil) .nil
theorem zqp:Sd G W0 96 zh1:=gs .nil .nil
theorem Zy:Sd G W0 155 xK:=gs (k1 (zqp hG) .nil) .nil
theorem u9:Sd G W0 98 xx:=gs (k1 (Zy hG) .nil) .nil
theorem zsB:Sd G W0 58 zmu:=gs (k1 (zdS hG) (k1 (Zr hG) (k1 (u9 hG) .nil))) .nil
theorem ztR:Sd G W0 99 zoy:=gs (k1 (zdr hG) .nil) .nil
theorem ztO:Sd G W0 59 zoZ:=gs (k1 (zcA hG) (k1 (ztR hG) .nil)) .nil
theorem zdK:Sd G W0 14 zes:=gs (k1 (zbu hG) (k1 (Wl hG) (k1 (zsB hG) (k1 (ztO hG) .nil)))) .nil
theorem zkj:Sd G W0 15 zis:=gs (k1 (zdQ hG) (k1 (zb4 hG) (k1 (zdC hG) (k1 (zb0 hG) (k1 (ze0 hG) (k1 (zdK hG) (k1 (zcN hG) .nil))))))) .nil
theorem zmT:Sd G W0 16 zcz:=gs .nil .nil
theorem zna:Sd G W0 81 zdO:=gs .nil .nil
theorem zrA:Sd G W0 41 zj9:=gs (k1 (zna hG) .nil) .nil
theorem zpS:Sd G W0 40 zfM:=gs (k1 (zrA hG) .nil) .nil
theorem znX:Sd G W0 157 znS:=gs (k1 (zcm hG) .nil) .nil
theorem zae:Sd G W0 104 zbP:=gs (k1 (XY hG) (k1 (znX hG) .nil)) .nil
theorem zhL:Sd G W0 205 UH:=gs (k1 (XG hG) (k1 (zcZ hG) .nil)) .nil
theorem zjy:Sd G W0 206 zbd:=gs (k1 (zg1 hG) (k1 (XG hG) .nil)) .nil
theorem zgU:Sd G W0 207 V1:=gs (k1 (zjv hG) (k1 (Y8 hG) (k1 (XG hG) .nil))) .nil
theorem zfx:Sd G W0 208 WB:=gs (k1 (XG hG) (k1 (zcZ hG) .nil)) .nil
theorem Xr:Sd G W0 166 Vr:=gs (k1 (zhL hG) (k1 (zjy hG) (k1 (zgU hG) (k1 (zfx hG) .nil)))) .nil
theorem zjX:Sd G W0 118 zbg:=gs (k1 (Xr hG) .nil) .nil
theorem zbz:Sd G W0 125 WQ:=gs .nil .nil
theorem zqZ:Sd G W0 209 zg3:=gs .nil .nil
theorem zp1:Sd G W0 209 zhH:=gs .nil .nil
theorem zqH:Sd G W0 209 zhO:=gs .nil .nil
theorem zpX:Sd G W0 209 zg8:=gs .nil .nil
theorem zdE:Sd G W0 229 Y4:=gs (k1 (ua hG) (k1 (wa hG) .nil)) .nil
theorem wK:Sd G W0 254 wG:=gs .nil .nil
theorem zgY:Sd G W0 230 V4:=gs (k1 (ua hG) (k1 (uK hG) (k1 (X3 hG) (k1 (wK hG) .nil)))) .nil
theorem Y0:Sd G W0 255 XZ:=gs (k1 (Y8 hG) .nil) .nil
theorem zkB:Sd G W0 231 zbW:=gs (k1 (ZK hG) (k1 (Y0 hG) .nil)) .nil
theorem zeK:Sd G W0 232 Wi:=gs (k1 (wa hG) (k1 (wK hG) (k1 (Y0 hG) .nil))) .nil
theorem zjh:Sd G W0 233 zaS:=gs (k1 (wa hG) (k1 (Y0 hG) .nil)) .nil
theorem zfv:Sd G W0 234 WR:=gs (k1 (ua hG) (k1 (uK hG) (k1 (zb8 hG) .nil))) .nil
theorem zhM:Sd G W0 235 UU:=gs (k1 (ua hG) (k1 (ZK hG) (k1 (wK hG) .nil))) .nil
theorem zbA:Sd G W0 256 WK:=gs (k1 (Y8 hG) (k1 (uK hG) .nil)) .nil
theorem zgR:Sd G W0 236 V0:=gs (k1 (zbA hG) .nil) .nil
theorem zgS:Sd G W0 237 VW:=gs (k1 (wa hG) (k1 (wK hG) (k1 (Y0 hG) .nil))) .nil
theorem zhI:Sd G W0 238 UM:=gs (k1 (wa hG) (k1 (wK hG) (k1 (Y0 hG) .nil))) .nil
theorem zhJ:Sd G W0 239 Ux:=gs (k1 (ua hG) (k1 (uK hG) .nil)) .nil
theorem zhX:Sd G W0 240 UC:=gs (k1 (ua hG) (k1 (wa hG) (k1 (zb8 hG) .nil))) .nil
theorem zgT:Sd G W0 241 VZ:=gs (k1 (ua hG) (k1 (ZK hG) .nil)) .nil
theorem zfz:Sd G W0 242 WI:=gs (k1 (wK hG) (k1 (zbA hG) .nil)) .nil
theorem zjc:Sd G W0 167 zf3:=gs (k2 (zqZ hG) (k2 (zp1 hG) (k2 (zqH hG) (k2 (zpX hG) (.skip _ _ (k1 (zdE hG) (k1 (zgY hG) (k1 (zkB hG) (k1 (zeK hG) (k1 (zjh hG) (k1 (zfv hG) (k1 (zhM hG) (k1 (zgR hG) (k1 (zgS hG) (k1 (zhI hG) (k1 (zhJ hG) (k1 (zhX hG) (k1 (zgT hG) (k1 (zfz hG) .nil))))))))))))))))))) .nil
theorem ze9:Sd G W0 169 zch:=gs (k1 (zb6 hG) (k1 (Y3 hG) .nil)) .nil
theorem VG:Sd G W0 210 Ua:=gs .nil .nil
theorem zdz:Sd G W0 171 U7:=gs (k1 (Yc hG) (k1 (VG hG) .nil)) .nil
theorem zjY:Sd G W0 168 zbn:=gs (k1 (Ya hG) (k1 (ze9 hG) (k1 (zdz hG) .nil))) .nil
theorem zkN:Sd G W0 119 zb7:=gs (k1 (zbz hG) (k1 (zjc hG) (k1 (zjY hG) .nil))) .nil
theorem zji:Sd G W0 120 zav:=gs (k1 (ze9 hG) .nil) .nil
theorem uv:Sd G W0 170 vu:=gs .nil .nil
theorem zke:Sd G W0 121 zbc:=gs (k1 (Y1 hG) (k1 (uv hG) (k1 (zdz hG) .nil))) .nil
theorem ze3:Sd G W0 124 zcq:=gs .nil .nil
theorem zdB:Sd G W0 211 zab:=gs .nil .nil
theorem zeY:Sd G W0 172 zfH:=gs (k1 (zdB hG) .nil) .nil
theorem zcX:Sd G W0 173 zcE:=gs .nil .nil
theorem zjV:Sd G W0 122 zbe:=gs (k1 (ze3 hG) (k1 (zeY hG) (k1 (zcX hG) .nil))) .nil
theorem zfs:Sd G W0 174 WF:=gs .nil .nil
theorem zc4:Sd G W0 103 zcM:=gs (k1 (XY hG) (k1 (zcm hG) .nil)) .nil
theorem ZQ:Sd G W0 212 uV:=gs (k1 (Yc hG) (k1 (Y1 hG) (k1 (VG hG) .nil))) .nil
theorem zh6:Sd G W0 175 UZ:=gs (k1 (zb6 hG) (k1 (Y3 hG) (k1 (zc4 hG) (k1 (ZQ hG) .nil)))) .nil
theorem zhb:Sd G W0 176 U0:=gs .nil .nil
theorem zhB:Sd G W0 177 UV:=gs (k1 (zjc hG) (k1 (ZQ hG) .nil)) .nil
theorem zhA:Sd G W0 178 Uw:=gs (k1 (ZQ hG) .nil) .nil
theorem zhQ:Sd G W0 179 UA:=gs (k1 (Xr hG) (k1 (ZQ hG) .nil)) .nil
theorem zhl:Sd G W0 180 UK:=gs (k1 (Ya hG) (k1 (Yc hG) (k1 (uv hG) (k1 (VG hG) .nil)))) .nil
theorem zfy:Sd G W0 181 Wz:=gs (k1 (Xr hG) .nil) .nil
theorem zkt:Sd G W0 123 ziq:=gs (k1 (zfs hG) (k1 (zh6 hG) (k1 (zhb hG) (k1 (zhB hG) (k1 (zhA hG) (k1 (zhQ hG) (k1 (zhl hG) (k1 (zfy hG) .nil)))))))) .nil
theorem XH:Sd G W0 182 Yb:=gs .nil .nil
theorem zpP:Sd G W0 184 zgh:=gs .nil .nil
theorem Uh:Sd G W0 183 ur:=gs (k1 (zpP hG) .nil) .nil
theorem zg2:Sd G W0 126 zey:=gs (k1 (XH hG) (k1 (Uh hG) .nil)) .nil
theorem zjI:Sd G W0 82 zbq:=gs (k1 (zae hG) (k1 (zjX hG) (k1 (zkN hG) (k1 (zji hG) (k1 (zke hG) (k1 (zjV hG) (k1 (zkt hG) (k1 (ze3 hG) (k1 (zbz hG) (k1 (zg2 hG) .nil)))))))))) .nil
theorem VK:Sd G W0 83 vV:=gs .nil .nil
theorem zrw:Sd G W0 42 zj0:=gs (k1 (zjI hG) (k1 (VK hG) .nil)) .nil
theorem uz:Sd G W0 185 Ze:=gs .nil .nil
theorem ZJ:Sd G W0 189 uP:=gs .nil .nil
theorem Wh:Sd G W0 186 YN:=gs (k1 (xz hG) (k1 (ZJ hG) .nil)) .nil
theorem zhR:Sd G W0 127 UF:=gs (k1 (uz hG) (k1 (Wh hG) .nil)) .nil
theorem zhp:Sd G W0 128 UT:=gs (k1 (zcX hG) .nil) .nil
theorem zj3:Sd G W0 129 za2:=gs (k1 (xz hG) .nil) .nil
theorem U4:Sd G W0 187 YZ:=gs (k1 (zkt hG) .nil) .nil
theorem zh7:Sd G W0 130 Uu:=gs (k1 (U4 hG) .nil) .nil
theorem zcL:Sd G W0 188 Un:=gs (k1 (zeY hG) (k1 (uz hG) .nil)) .nil
theorem zi5:Sd G W0 131 zaF:=gs (k1 (uz hG) (k1 (Wh hG) (k1 (zcL hG) .nil))) .nil
theorem zjQ:Sd G W0 132 za3:=gs (k1 (uz hG) (k1 (zcL hG) (k1 (ZJ hG) .nil))) .nil
theorem zhU:Sd G W0 133 Uz:=gs (k1 (znX hG) .nil) .nil
theorem zft:Sd G W0 134 WE:=gs (k1 (xz hG) .nil) .nil
theorem zvt:Sd G W0 190 zp6:=gs (k1 (xz hG) (k1 (uv hG) (k1 (zdB hG) .nil))) .nil
theorem zhq:Sd G W0 135 UJ:=gs (k1 (uz hG) (k1 (ZJ hG) (k1 (zvt hG) .nil))) .nil
theorem zgm:Sd G W0 108 Vh:=gs .nil .nil
theorem ziG:Sd G W0 63 zgp:=gs (k1 (zcN hG) (k1 (zgm hG) .nil)) .nil
theorem zi2:Sd G W0 105 zgu:=gs (k1 (zc4 hG) (k1 (zae hG) .nil)) .nil
theorem zo3:Sd G W0 214 zeQ:=gs .nil .nil
theorem VU:Sd G W0 183 uf:=gs (k1 (zo3 hG) .nil) .nil
theorem zaf:Sd G W0 216 Xn:=gs (k1 (XH hG) .nil) .nil
theorem ziQ:Sd G W0 213 zfL:=gs (k1 (zaf hG) .nil) .nil
theorem zp4:Sd G W0 191 zg4:=gs (k1 (VU hG) (k1 (ziQ hG) .nil)) .nil
theorem zh5:Sd G W0 136 UW:=gs (k1 (ziG hG) (k1 (zi2 hG) (k1 (uz hG) (k1 (Wh hG) (k1 (ZJ hG) (k1 (zp4 hG) .nil)))))) .nil
theorem zpH:Sd G W0 215 zfP:=gs .nil .nil
theorem Uk:Sd G W0 183 uo:=gs (k1 (zpH hG) .nil) .nil
theorem zrx:Sd G W0 192 zkc:=gs (k1 (XH hG) (k1 (Uk hG) .nil)) .nil
theorem zqm:Sd G W0 193 zhy:=gs (k1 (ziQ hG) (k1 (zaf hG) .nil)) .nil
theorem za0:Sd G W0 194 XV:=gs (k1 (Yc hG) (k1 (VG hG) .nil)) .nil
theorem zjt:Sd G W0 137 zau:=gs (k1 (Ya hG) (k1 (zrx hG) (k1 (zqm hG) (k1 (za0 hG) .nil)))) .nil
theorem zj6:Sd G W0 138 zbt:=gs (k1 (Xr hG) .nil) .nil
theorem zib:Sd G W0 139 UQ:=gs (k1 (Y1 hG) (k1 (uv hG) (k1 (za0 hG) .nil))) .nil
theorem ziW:Sd G W0 140 zaR:=gs (k1 (Xr hG) .nil) .nil
theorem zhh:Sd G W0 141 UL:=gs .nil .nil
theorem zd0:Sd G W0 195 zbv:=gs .nil .nil
theorem zi4:Sd G W0 142 zah:=gs (k1 (zeY hG) (k1 (zcX hG) (k1 (zd0 hG) .nil))) .nil
theorem zj7:Sd G W0 143 zba:=gs (k1 (U4 hG) (k1 (zd0 hG) .nil)) .nil
theorem zfQ:Sd G W0 144 Vx:=gs (k1 (zae hG) (k1 (zg2 hG) .nil)) .nil
theorem zgF:Sd G W0 145 Vn:=gs .nil .nil
theorem ziT:Sd G W0 84 zao:=gs (k1 (zhR hG) (k1 (zhp hG) (k1 (zj3 hG) (k1 (zh7 hG) (k1 (zi5 hG) (k1 (zjQ hG) (k1 (zhU hG) (k1 (zft hG) (k1 (zhq hG) (k1 (zh5 hG) (k1 (zjt hG) (k1 (zj6 hG) (k1 (zib hG) (k1 (ziW hG) (k1 (zhh hG) (k1 (zi4 hG) (k1 (zj7 hG) (k1 (zfQ hG) (k1 (zgF hG) .nil))))))))))))))))))) .nil
theorem W5:Sd G W0 85 vE:=gs .nil .nil
theorem zqo:Sd G W0 43 zhW:=gs (k1 (ziT hG) (k1 (W5 hG) .nil)) .nil
theorem zg0:Sd G W0 8 zeA:=gs (k1 (zpS hG) (k1 (zrw hG) (k1 (zqo hG) (k1 (ziZ hG) .nil)))) .nil
theorem zrG:Sd G W0 17 zl2:=gs (k1 (zg0 hG) .nil) .nil
theorem zqN:Sd G W0 61 zht:=gs (k1 (zc4 hG) (k1 (zae hG) (k1 (zi2 hG) .nil))) .nil
theorem zgM:Sd G W0 107 V2:=gs .nil .nil
theorem Zi:Sd G W0 106 xA:=gs (k1 (zgM hG) .nil) .nil
theorem ztK:Sd G W0 62 zo7:=gs (k1 (Zi hG) .nil) .nil
theorem zrn:Sd G W0 64 zjO:=gs .nil .nil
theorem zlK:Sd G W0 18 zkV:=gs (k1 (zqN hG) (k1 (ztK hG) (k1 (ziG hG) (k1 (zrn hG) .nil)))) .nil
theorem zrt:Sd G W0 66 zjP:=gs (k1 (zcm hG) .nil) .nil
theorem ztB:Sd G W0 20 zol:=gs (k1 (zlK hG) (k1 (zcW hG) (k1 (zbu hG) (k1 (zrt hG) .nil)))) .nil
theorem zje:Sd G W0 4 zam:=gs (k1 (zkw hG) (k1 (zdQ hG) (k1 (zb4 hG) (k1 (zdC hG) (k1 (zb0 hG) (k1 (ze0 hG) (k1 (zdK hG) (k1 (zkj hG) (k1 (zmT hG) (k1 (zrG hG) (k1 (zlK hG) (k1 (zdJ hG) (k1 (ztB hG) .nil))))))))))))) .nil
theorem Vb:Sd G W0 21 Z2:=gs .nil .nil
theorem zfY:Sd G W0 23 Vo:=gs (k1 (Vb hG) .nil) .nil
theorem znl:Sd G W0 5 zdD:=gs (k1 (Vb hG) (k1 (XY hG) (k1 (zfY hG) .nil))) .nil
theorem zl5:Sd G W0 7 zcQ:=gs .nil .nil
theorem ziL:Sd G W0 3 zaw:=gs (k1 (zje hG) (k1 (znl hG) (k1 (zkw hG) (k1 (zl5 hG) (k1 (zg0 hG) (k1 (zdQ hG) (k1 (zb4 hG) (k1 (zdC hG) (k1 (zb0 hG) (k1 (ze0 hG) (k1 (zdK hG) (k1 (zkj hG) .nil)))))))))))) .nil
end Go.Pe.G
