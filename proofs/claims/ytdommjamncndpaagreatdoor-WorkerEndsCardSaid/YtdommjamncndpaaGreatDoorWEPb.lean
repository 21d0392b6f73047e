/- Own work of this seat: PReach, PLiveP, PUnder, PFrame, PDark, PMstep, PHp, PNewI, PFull, PRem, PRuns, PProt, PMProt, PMSnap, PWSnap, PStops, PSteals, PSteals2, PEnds1, PEnds2, PEnds3, PEnds4, PEnds5, PEnds6, PEnds7, PEnds8, PFWork, PEngI, PEngP, PEnds9, PEngN, PNewPi, PRegs, PBound, PPaid, PFold, PLedR, PLaw15. -/
import Derived.Test.YtdommjamncndpaaGreatDoorWEPa
set_option linter.unusedVariables false
set_option linter.unusedSimpArgs false
set_option linter.unnecessarySimpa false
set_option linter.unusedSectionVars false
set_option linter.deprecated false
set_option maxRecDepth 20000
open BitVec renaming toNat_and → zCi, getLsbD_and → zCw, toInt_eq_toNat_cond → zCE, eq_of_getLsbD_eq → zCI, getLsbD_not → zCQ, ofNat → zC2, ofInt → zC4
open Bool renaming and_eq_true → zBl, not_eq_true' → zBC, false_eq_true → zBT, not_true → zB6, or_eq_true → zCx
open Int renaming le_refl → zB2, toNat_natCast → zCh
open List renaming getElem?_eq_getElem → zBn, append_nil → zBo, getD_eq_getElem?_getD → zBp, mem_of_getElem? → zBq, mem_cons_of_mem → zBr, getElem?_eq_some_iff → zBt, append_assoc → zBu, length_cons → zBv, mem_cons_self → zBx, nil_append → zBy, length_append → zBz, mem_map → zBB, mem_append → zBE, length_set → zBF, mem_cons → zBG, mem_append_left → zBH, getElem?_set_ne → zBI, mem_append_right → zBJ, getElem?_append_left → zBM, perm_append_comm_assoc → zBO, getElem?_map → zBQ, getElem?_append_right → zBS, getElem_mem → zBU, mem_range → zBW, mem_or_eq_of_mem_set → zBX, getElem?_set → zBZ, getElem?_set_self → zB3, length_nil → zB4, perm_append_comm → zB5, eq_nil_of_length_eq_zero → zB7, length_replicate → zB8, flatMap_cons → zCa, mem_singleton → zCb, mem_flatMap → zCc, nodup_append → zCe, getElem?_eq_none → zCj, mem_iff_getElem? → zCm, sum_cons → zCn, map_cons → zCo, foldl_cons → zCs, drop_eq_getElem_cons → zCt, getElem?_cons_zero → zCv, cons_append → zCG, getElem?_replicate → zCH, length_map → zCK, mem_of_mem_take → zCL, take_add_one → zCO, take_length → zCP, range_eq_range' → zCW, eq_of_mem_replicate → zC0, replicate → zC3, range → zC5, Perm → zC6
open List.Perm renaming append_left → zBA, refl → zBY, append_right → zCR
open Nat renaming le_refl → zBm, le_trans → zCf
open Option renaming bind_some → zBk, bind_eq_some_iff → zBw
namespace Go.Pe.G
open Go.Pe
noncomputable section
inductive Reach (h:zC) (R:BitVec 64):Int->Prop
 | root (o:Int) (h1:zP R o=true) (h2:1<=o/\o<=(h.Objs.length:Int)):Reach h R o
 | step (o v:Int) (h1:Reach h R o) (h2:v∈zV h o) (h3:1<=v/\v<=(h.Objs.length:Int)):Reach h R v
theorem Reach.in {h:zC}{R:BitVec 64}{o:Int}(r:Reach h R o):1<=o/\o<=(h.Objs.length:Int):=by
 cases r with
 | root _ _ h2=>exact h2
 | step _ _ _ _ h3=>exact h3
theorem zvU:∀t:Fin 512,zkd 66 (zC2 64 t.1)=some (((zC5 9).filter fun i=>(zC2 64 t.1).getLsbD i).map fun i:Nat=>(i:Int)+1):=by decide +kernel
def zka (s:BitVec 64):List Int:=((zC5 9).filter fun i=>s.getLsbD i).map fun i:Nat=>(i:Int)+1
theorem zzQ:∀t:Fin 512,Go.Lib.ctz 64 t.1<=64:=by decide +kernel
theorem zrh:∀(f:Nat) (s:BitVec 64),s.toNat<512->VA f s=zkd f s
 | 0,_,_=>rfl
 | f+1,s,h=>by
  simp only [VA,zkd];rw [zrh f _ (by rw [zCi];exact Nat.lt_of_le_of_lt Nat.and_le_left h)];have:Go.Lib.ctz 64 s.toNat<=64:=zzQ ⟨s.toNat,h⟩;have e:w64 (tz s+1)=((Go.Lib.ctz 64 s.toNat:Nat):Int)+1:=by
   unfold tz;exact yI
  rw [e]
theorem zxp (s:BitVec 64) (o:Int):o∈zka s↔1<=o/\o<=9/\zP s o=true:=by
 unfold zka;rw [zBB];constructor
 .rintro ⟨i,hi,rfl⟩;obtain ⟨a,b⟩:=List.mem_filter.1 hi;have a:=zBW.1 a;exact ⟨by omega,by omega,(wm _ _).2 ⟨by omega,by omega,by rw [show ((i:Int)+1-1).toNat=i by omega];exact b⟩⟩
 .rintro ⟨a,b,c⟩;obtain ⟨_,_,d⟩:=(wm _ _).1 c;exact ⟨(o-1).toNat,List.mem_filter.2 ⟨zBW.2 (by omega),d⟩,by omega⟩
theorem zq7 (s:BitVec 64):(zka s).length<=9:=by
 unfold zka;rw [zCK];exact zCf (List.length_filter_le _ _) (by simp)
theorem zxn {s:BitVec 64}(h:∀o,zP s o=true->o<=9):zcV s=some (zka s,()):=by
 obtain ⟨t,rfl⟩:=zsV h;have e:zgz (zC2 64 t.1)=some (zka (zC2 64 t.1)):=by
  show VA 66 _=_;rw [zrh 66 _ (by simp;omega),zvU t];rfl
 have:=zq7 (zC2 64 t.1);rw [zkW,zkU,zBk,e,zBk,zkp _ _ (by simp;omega)];rfl
theorem zmi {α:Type}{l:List α}{n:Nat}{i:Int}(h:0<=i) (h1:i<l.length) (h2:i<n):zd1 l n i=some i.toNat:=by
 unfold zd1;simp [h,h1,h2]
def mt (met:List Int) (o:Int):Int:=met.getD (o-1).toNat 0
def Wg (met:List Int):Nat:=met.countP (fun x=>decide (x=0))
theorem zoW {met:List Int}{o:Int}(h:1<=o/\o<=(met.length:Int)):met[(o-1).toNat]? =some (mt met o):=by
 have e:=zBn (show (o-1).toNat<met.length by omega);unfold mt;rw [zBp,e];rfl
theorem zgO {met:List Int}{o q x:Int}(h:1<=o/\o<=(met.length:Int)) (hq:1<=q):mt (met.set (o-1).toNat x) q=if q=o then x else mt met q:=by
 unfold mt;rw [zBp,zBp,zBZ];by_cases e:q=o
 .subst e;rw [zb rfl,zb rfl,yo];rfl
 .rw [ze,zd e]
theorem zwm {met:List Int}{o x:Int}(h:1<=o/\o<=(met.length:Int)) (h0:mt met o=0) (hx:x≠0):Wg (met.set (o-1).toNat x)+1=Wg met:=by
 have hl:(o-1).toNat<met.length:=by omega
 have e:met[(o-1).toNat]'hl=0:=by
  have:=zoW h;rw [h0,zBn hl] at this;exact Option.some.inj this
 have hm:(0:Int)∈met:=by rw [<-e];exact zBU hl
 have hp:0<Wg met:=List.countP_pos_iff.2 ⟨0,hm,by simp⟩;unfold Wg at hp ⊢;rw [List.countP_set hl,e];simp [hx];omega
structure RI (h:zC) (R:BitVec 64) (met wait:List Int):Prop where
 len:met.length=64
 val:∀o,1<=o->0<=mt met o/\mt met o<=100-(Wg met:Int)
 rc:∀o,1<=o->0<mt met o->Reach h R o
 rt:∀o,zP R o=true->1<=o/\o<=(h.Objs.length:Int)->0<mt met o
 wt:∀o∈wait,(1<=o/\o<=(h.Objs.length:Int))/\0<mt met o
 cl:∀o,1<=o->0<mt met o->o∉wait->∀v∈zV h o,1<=v/\v<=(h.Objs.length:Int)->0<mt met v
 zl:Wg met<=64
theorem zyT (met:List Int):Wg met<=met.length:=List.countP_le_length
theorem RI.add {h:zC}{R:BitVec 64}{met wait:List Int}{o v:Int}(hn:h.Objs.length<=9) (I:RI h R met wait) (ho:o∈wait) (hv:v∈zV h o) (hr:1<=v/\v<=(h.Objs.length:Int)) (h0:mt met v=0) :
  RI h R (met.set (v-1).toNat (mt met o+1)) (wait++[v])/\Wg (met.set (v-1).toNat (mt met o+1))+1=Wg met:=by
 obtain ⟨ho1,ho2⟩:=I.wt o ho;have hlen:=I.len;have hvl:1<=v/\v<=(met.length:Int):=by omega
 have hz:=zwm (x:=mt met o+1) hvl h0 (by omega);have hval:=I.val o ho1.1;have hzl:=I.zl;have key:∀q,1<=q->0<mt met q->0<mt (met.set (v-1).toNat (mt met o+1)) q:=fun q hq hp=>by
  rw [zgO hvl hq];split<;>omega
 refine ⟨⟨by rw [zBF];exact hlen,fun q hq=>?_,fun q hq hp=>?_,fun q a b=>key q b.1 (I.rt q a b),fun q hq=>?_,fun q hq hp hw u hu hur=>?_,by omega⟩,hz⟩
 .have:=I.val q hq;rw [zgO hvl hq];split<;>omega
 .rw [zgO hvl hq] at hp;split at hp
  .rename_i e;subst e;exact .step o q (I.rc o ho1.1 ho2) hv hr
  .exact I.rc q hq hp
 .rcases zBE.1 hq with hq | hq
  .exact ⟨(I.wt q hq).1,key q (I.wt q hq).1.1 (I.wt q hq).2⟩
  .simp at hq;subst hq;refine ⟨hr,?_⟩;rw [zgO hvl hr.1,zb rfl];omega
 .have hw1:q∉wait:=fun e=>hw (zBH _ e);have hw2:q≠v:=fun e=>hw (by rw [e];simp);rw [zgO hvl hq,zd hw2] at hp;exact key u hur.1 (I.cl q hq hp hw1 u hu hur)
theorem RI.rm {h:zC}{R:BitVec 64}{met:List Int}{o:Int}{w:List Int}(I:RI h R met (o::w)) (hd:∀v∈zV h o,1<=v/\v<=(h.Objs.length:Int)->0<mt met v):RI h R met w :=
 ⟨I.len,I.val,I.rc,I.rt,fun q hq=>I.wt q (zBr _ hq),fun q hq hp hw v hv hr=>by
  by_cases e:q=o
  .rw [e] at hv;exact hd v hv hr
  .exact I.cl q hq hp (fun h=>(zBG.1 h).elim e hw) v hv hr,I.zl⟩
theorem zvB {h:zC}{R:BitVec 64}(hn:h.Objs.length<=9) {o:Int}{w0:List Int}{a7:List Int}(hs:(zV h o).length<1000000):∀(n:Nat) (met added:List Int) (i:Nat),(zV h o).length-i=n->i<=(zV h o).length->RI h R met (o::w0++added)->(o::w0++added).length+Wg met<=200 ->
  (∀v∈(zV h o).take i,1<=v/\v<=(h.Objs.length:Int)->0<mt met v)->∀m,n<m ->
  ∃met' added',vd vS m (wR (h.Objs.length:Int),o,zV h o,((zV h o).length:Int),(i:Int),h,a7,met,o::w0++added,())=some (.brk (wR (h.Objs.length:Int),h,a7,met',o::w0++added',())) /\
   RI h R met' (o::w0++added')/\(o::w0++added').length+Wg met'=(o::w0++added).length+Wg met/\Wg met'<=Wg met/\(∀v∈zV h o,1<=v/\v<=(h.Objs.length:Int)->0<mt met' v):=by
 intro n
 induction n with
 | zero =>
  intro met added i hk hi I hz hd m hm;obtain ⟨m,rfl⟩:∃x,m=x+1:=⟨m-1,by omega⟩
  have e:i=(zV h o).length:=by omega
  subst e;rw [zCP] at hd;refine ⟨met,added,?_,I,rfl,zBm _,hd⟩;rw [vd,YL,zG,ze];rfl
 | succ n ih =>
  intro met added i hk hi I hz hd m hm;obtain ⟨m,rfl⟩:∃x,m=x+1:=⟨m-1,by omega⟩
  have hx:=zBn (show i<(zV h o).length by omega);generalize hxv:(zV h o)[i]'(by omega)=v at hx;have hv:v∈zV h o:=zBq hx;have hlen:=I.len;have ho:=I.wt o (by simp);have hval:=I.val o ho.1.1;have htk:(zV h o).take (i+1)=(zV h o).take i++[v]:=by rw [zCO,hx];rfl
  rw [vd,YL,zG,yo,vj hx,zBk,zmr,zBk];have hb:=Uk hn v;unfold zP at hb;by_cases hr:1<=v/\v<=(h.Objs.length:Int)
  .have hb1:=hb.2 hr;dsimp only;rw [hb1,zI,yI (a:=v-1) (by omega) (by omega),zmi (by omega) (by omega) (by omega),zBk,zoW (by omega),zBk,zG];by_cases h0:mt met v=0
   .rw [zb h0,yI (a:=o-1) (by omega) (by omega),zmi (by omega) (by omega) (by omega),zBk,zoW (by omega),zBk,zBk,uM (by rw [zBz];show _+1<_;omega),zBk,yI (a:=(i:Int)+1) (by omega) (by omega),yI (a:=mt met o+1) (by omega) (by omega),zBk];obtain ⟨I',hz'⟩:=I.add hn (by simp) hv hr h0;dsimp only;rw [zBu] at I' ⊢;have hz2:(o::w0++(added++[v])).length=(o::w0++added).length+1:=by simp;omega
    obtain ⟨met',added',e1,e2,e3,e4,e5⟩:=ih (met.set (v-1).toNat (mt met o+1)) (added++[v]) (i+1) (by omega) (by omega) I' (by omega) (fun q hq hqr=>by
     rw [zgO (by omega) hqr.1];split
     .omega
     .rename_i hne;rw [htk] at hq;rcases zBE.1 hq with hq | hq
      .exact hd q hq hqr
      .simp at hq;exact zk hq hne) m (by omega)
    refine ⟨met',added',?_,e2,by omega,by omega,e5⟩;have:((i+1:Nat):Int)=(i:Int)+1:=by omega
    rw [<-this];exact e1
   .rw [zd h0,yI (a:=(i:Int)+1) (by omega) (by omega),zBk];have hp:0<mt met v:=by have:=I.val v hr.1;omega
    obtain ⟨met',added',e1,e2⟩:=ih met added (i+1) (by omega) (by omega) I hz (fun q hq hqr=>by
     rw [htk] at hq;rcases zBE.1 hq with hq | hq
     .exact hd q hq hqr
     .simp at hq;rw [hq];exact hp) m (by omega)
    refine ⟨met',added',?_,e2⟩;have:((i+1:Nat):Int)=(i:Int)+1:=by omega
    rw [<-this];exact e1
  .have hb1:(!(decide (wR (h.Objs.length:Int)&&&bit v=0#64)))=false:=by
    cases hc:(!(decide (wR (h.Objs.length:Int)&&&bit v=0#64))) with
    | false=>rfl
    | true=>exact zk (hb.1 hc) hr
   dsimp only;rw [hb1,yg,yI (a:=(i:Int)+1) (by omega) (by omega),zBk];obtain ⟨met',added',e1,e2⟩:=ih met added (i+1) (by omega) (by omega) I hz (fun q hq hqr=>by
    rw [htk] at hq;rcases zBE.1 hq with hq | hq
    .exact hd q hq hqr
    .simp at hq;rw [hq] at hqr;exact zk hqr hr) m (by omega)
   refine ⟨met',added',?_,e2⟩;have:((i+1:Nat):Int)=(i:Int)+1:=by omega
   rw [<-this];exact e1
theorem znt {A B D:Type}{f:A->Option (xJ A B D)}{x:A}{b:B}{n:Nat}(h:vd f n x=some (.brk b)) (hn:n<=rounds):yM f x=some (.brk b):=by
 rw [Uh];have key:∀(n m:Nat) (x:A),vd f n x=some (.brk b)->n<=m->vd f m x=some (.brk b):=by
  intro n
  induction n with
  | zero=>intro m x h;cases h
  | succ n ih =>
   intro m x h hm;obtain ⟨m,rfl⟩:∃q,m=q+1:=⟨m-1,by omega⟩
   simp only [vd,zBw] at h ⊢;obtain ⟨s,h1,h2⟩:=h;refine ⟨s,h1,?_⟩;cases s with
   | again y=>exact ih m y h2 (by omega)
   | brk b'=>exact h2
   | ret c=>exact h2
 exact key n rounds x h hn
theorem zyi {h:zC}{R:BitVec 64}(hn:h.Objs.length<=9) (hs:∀o,(zV h o).length<1000000) {a7:List Int}:∀(n:Nat) (met wait:List Int),wait.length+2*Wg met<=n->wait.length+Wg met<=200->RI h R met wait->∀m,n<m ->
  ∃met',vd ZI m (wR (h.Objs.length:Int),h,a7,met,wait,())=some (.brk (a7,met',()))/\RI h R met' []:=by
 intro n
 induction n with
 | zero =>
  intro met wait hz hz2 I m hm;obtain ⟨m,rfl⟩:∃x,m=x+1:=⟨m-1,by omega⟩
  have:wait=[]:=zB7 (by omega);subst this;refine ⟨met,?_,I⟩;rw [vd,uZ,zG,zd (by simp)];rfl
 | succ n ih =>
  intro met wait hz hz2 I m hm;obtain ⟨m,rfl⟩:∃x,m=x+1:=⟨m-1,by omega⟩
  cases wait with
  | nil =>
   refine ⟨met,?_,I⟩;rw [vd,uZ,zG,zd (by simp)];rfl
  | cons o w =>
   have ho:=(I.wt o (by simp)).1;have hso:=hs o;have eo:=zBn (show (o-1).toNat<h.Objs.length by omega);have es:h.Objs[(o-1).toNat]'(by omega)=zV h o:=by unfold zV;rw [zBp,eo];rfl
   obtain ⟨met',added',e1,e2,e3,e4,e5⟩:=zvB (a7:=a7) hn (o:=o) (w0:=w) hso _ met [] 0 rfl (Nat.zero_le _) (by simpa using I) (by simpa using hz2) (fun v hv=>by simp at hv) ((zV h o).length+1) (by omega);simp only [zBo,Int.natCast_zero] at e1 e3;have e1:vd vS ((zV h o).length+1) (wR (h.Objs.length:Int),o,zV h o,((zV h o).length:Int),0,h,a7,met,o::w,())=some (.brk (wR (h.Objs.length:Int),h,a7,met',o::w++added',())):=e1;have hidx:Yh (o::w) 0=some 0:=by rw [WB (by omega) (by simp)];rfl
   rw [vd,uZ,zG,zb (by simp),hidx,zBk];simp only [zCv,zBk,zmO,zB6,yg];rw [yI (a:=o-1) (by omega) (by omega),VH,eo,zBk,es,znt e1 (by have:rounds=18446744073709551616:=rfl;omega)];dsimp only [zBk];rw [zCG,zsp,zBk,zBk];dsimp only;rw [zCG] at e2;exact ih met' (w++added') (by simp at e3 hz ⊢;omega) (by simp at e3 hz2 ⊢;omega) (e2.rm e5) m (by omega)
theorem zzY (o:Int):mt (zC3 64 (0:Int)) o=0:=by
 unfold mt;rw [zBp,zCH];split<;>rfl
theorem zvD {h:zC}{a1:BitVec 64}{a5:List Int}:∀(n i:Nat) (l met:List Int),l.length-i=n->i<=l.length->l.length<1000000->(∀o∈l,1<=o/\o<=9)->met.length=64->(∀o,1<=o->mt met o=if o∈l.take i then 1 else 0)->∀m,n<m ->
  ∃met',vd ZL m (a1,(l.length:Int),(i:Int),h,a5,met,l,())=some (.brk (a1,h,a5,met',l,()))/\met'.length=64/\∀o,1<=o->mt met' o=if o∈l then 1 else 0:=by
 intro n
 induction n with
 | zero =>
  intro i l met hk hi hl hr hm ht m hm2;obtain ⟨m,rfl⟩:∃x,m=x+1:=⟨m-1,by omega⟩
  have e:i=l.length:=by omega
  subst e;rw [zCP] at ht;refine ⟨met,?_,hm,ht⟩;rw [vd,Y3,zG,ze];rfl
 | succ n ih =>
  intro i l met hk hi hl hr hm ht m hm2;obtain ⟨m,rfl⟩:∃x,m=x+1:=⟨m-1,by omega⟩
  have hx:=zBn (show i<l.length by omega);generalize hxv:l[i]'(by omega)=v at hx;have hv:=hr v (zBq hx);have htk:l.take (i+1)=l.take i++[v]:=by rw [zCO,hx];rfl
  rw [vd,Y3,zG,yo,WB,zBk,zCh,hx,zBk,yI (a:=v-1) (by omega) (by omega),zmi (by omega) (by omega) (by omega),zBk,yI (a:=(i:Int)+1) (by omega) (by omega),zBk];obtain ⟨met',e1,e2⟩:=ih (i+1) l (met.set (v-1).toNat 1) (by omega) (by omega) hl hr (by rw [zBF];exact hm) (fun o ho=>by
   rw [zgO (by omega) ho,ht o ho,htk];by_cases e:o=v
   .rw [zb e,zb (by rw [e];simp)]
   .rw [zd e];by_cases e2:o∈l.take i
    .rw [zb e2,zb (zBH _ e2)]
    .rw [zd e2,zd (fun h=>(zBE.1 h).elim e2 (fun h=>e (by simpa using h)))]) m (by omega)
  refine ⟨met',?_,e2⟩;have:((i+1:Nat):Int)=(i:Int)+1:=by omega
  rw [<-this];exact e1
theorem zt6 {met:List Int}(hl:met.length=64):∃S,zbQ met=some (S,())/\∀o,zP S o=true↔1<=o/\0<mt met o:=by
 rw [zk4,zG,zb hl];have key:=ZV (f:=U3) (fun a=>∃(i:Nat) (S:BitVec 64),i<=64/\a=(S,met,(i:Int),())/\∀o,zP S o=true↔(1<=o/\o<=(i:Int))/\0<mt met o) (fun a=>64-a.2.2.1.toNat) (fun o=>∃S,o= .brk (S,())/\∀o,zP S o=true↔1<=o/\0<mt met o) (by
  rintro _ ⟨i,S,hi,rfl,hS⟩;rw [ziO,zG];by_cases c:(i:Int)<64
  .have hx:=zoW (met:=met) (o:=(i:Int)+1) (by omega);rw [show ((i:Int)+1-1).toNat=i by omega] at hx;rw [zb c,zmi (by omega) (by omega) c,zBk,zCh,hx,zBk,zG,yI (a:=(i:Int)+1) (by omega) (by omega),zjj,zBk];by_cases hp:0<mt met ((i:Int)+1)
   .rw [zb hp];refine ⟨_,rfl,⟨i+1,_,by omega,rfl,fun o=>?_⟩,?_⟩
    .dsimp only;rw [wg _ (by omega),hS o];constructor
     .rintro (⟨a,b⟩ | rfl)
      .exact ⟨by omega,b⟩
      .exact ⟨by omega,hp⟩
     .rintro ⟨a,b⟩;by_cases e:o=(i:Int)+1
      .exact .inr e
      .exact .inl ⟨by omega,b⟩
    .show 64-((i:Int)+1).toNat<64-(i:Int).toNat;omega
   .rw [zd hp];refine ⟨_,rfl,⟨i+1,S,by omega,rfl,fun o=>?_⟩,?_⟩
    .rw [hS o];constructor
     .rintro ⟨a,b⟩;exact ⟨by omega,b⟩
     .rintro ⟨a,b⟩;by_cases e:o=(i:Int)+1
      .rw [e] at b;exact zk b hp
      .exact ⟨by omega,b⟩
    .show 64-((i:Int)+1).toNat<64-(i:Int).toNat;omega
  .rw [zd c];refine ⟨_,rfl,S,rfl,fun o=>?_⟩;rw [hS o];have hi:i=64:=by omega
   subst hi;constructor
   .rintro ⟨a,b⟩;exact ⟨a.1,b⟩
   .rintro ⟨a,b⟩;refine ⟨⟨a,?_⟩,b⟩;by_cases h:64<o
    .exfalso;unfold mt at b;rw [zBp,zCj (by omega)] at b;exact zk b (by show ¬(0:Int)<0;decide)
    .show o<=64;omega) (0#64,met,0,()) ⟨0,0#64,by omega,rfl,fun o=>⟨fun e=>zk e (XB o),fun e=>by have:=e.1;omega⟩⟩ (by show 64-0<18446744073709551616;decide)
 obtain ⟨o,e,S,rfl,hS⟩:=key;refine ⟨S,?_,hS⟩;exact congrArg (fun o=>Option.bind o _) e
theorem ztb {h:zC}(hn:h.Objs.length<=9) (hs:∀l∈h.Objs,l.length<1000000) (R:BitVec 64):∃S,zam h R=some (S,())/\∀o,zP S o=true↔Reach h R o:=by
 have hso:∀o,(zV h o).length<1000000:=fun o=>by
  unfold zV;rw [zBp];cases hx:h.Objs[(o-1).toNat]? with
  | none=>show ([]:List Int).length<_;simp
  | some l=>exact hs l (zBq hx)
 have hF:=fun o=>Uk hn o;have hA:∀o,zP (R&&&wR (h.Objs.length:Int)) o=true↔zP R o=true/\1<=o/\o<=(h.Objs.length:Int):=fun o=>by rw [Zp,hF]
 have h9:∀o,zP (R&&&wR (h.Objs.length:Int)) o=true->o<=9:=fun o e=>by have:=(hA o).1 e;omega
 have hw:=zxp (R&&&wR (h.Objs.length:Int));have hwl:=zq7 (R&&&wR (h.Objs.length:Int));generalize hwd:zka (R&&&wR (h.Objs.length:Int))=wait at hw hwl;obtain ⟨met,e1,m1,m2⟩:=zvD (h:=h) (a1:=wR (h.Objs.length:Int)) (a5:=zC3 64 (0:Int)) wait.length 0 wait (zC3 64 (0:Int)) rfl (Nat.zero_le _) (by omega) (fun o ho=>by have:=(hw o).1 ho;omega) (by simp) (fun o _=>by rw [zzY];simp) (wait.length+1) (by omega);have hz:=zyT met;have I:RI h R met wait:=by
  refine ⟨m1,fun o ho=>?_,fun o ho hp=>?_,fun o ho hr=>?_,fun o ho=>?_,fun o ho hp hno=>?_,by omega⟩
  .rw [m2 o ho];split<;>omega
  .rw [m2 o ho] at hp;split at hp
   .rename_i hm;have a:=(hA o).1 ((hw o).1 hm).2.2;exact .root o a.1 a.2
   .omega
  .rw [m2 o hr.1,zb ((hw o).2 ⟨hr.1,by omega,(hA o).2 ⟨ho,hr⟩⟩)];decide
  .have a:=(hA o).1 ((hw o).1 ho).2.2;refine ⟨a.2,?_⟩;rw [m2 o a.2.1,zb ho];decide
  .rw [m2 o ho,zd hno] at hp;omega
 obtain ⟨met',e2,I'⟩:=zyi (a7:=zC3 64 (0:Int)) hn hso (wait.length+2*Wg met) met wait (zBm _) (by omega) I (wait.length+2*Wg met+1) (by omega);obtain ⟨S,e3,hS⟩:=zt6 I'.len;refine ⟨S,?_,fun o=>?_⟩
 .have hrd:rounds=18446744073709551616:=rfl;have ew:Yw h R=some (met',()):=by
   rw [zck,zqQ _ (by omega),zBk,zxn h9,zBk,hwd];refine (congrArg (fun o=>Option.bind o _) (znt e1 (by omega))).trans ?_;rw [zBk];dsimp only;refine (congrArg (fun o=>Option.bind o _) (znt e2 (by omega))).trans ?_;rw [zBk];dsimp only;rw [zG,zG,zG,zb I'.len,zb (by simp),zb I'.len]
  rw [zob,ew,zBk,e3];rfl
 .rw [hS o];constructor
  .rintro ⟨a,b⟩;exact I'.rc o a b
  .intro r
   induction r with
   | root o h1 h2=>exact ⟨h2.1,I'.rt o h1 h2⟩
   | step o v _ h2 h3 ih=>exact ⟨h3.1,I'.cl o ih.1 ih.2 (by simp) v h2 h3⟩
def zo7 (h:zC) (R:BitVec 64):BitVec 64:=match zam h R with | some x=>x.1 | none=>0#64
theorem zv2 {h:zC}(hn:h.Objs.length<=9) (hs:∀l∈h.Objs,l.length<1000000) (R:BitVec 64):zam h R=some (zo7 h R,()):=by
 obtain ⟨S,e,_⟩:=ztb hn hs R;unfold zo7;rw [e]
theorem zxu {h:zC}(hn:h.Objs.length<=9) (hs:∀l∈h.Objs,l.length<1000000) (R:BitVec 64) (o:Int):zP (zo7 h R) o=true↔Reach h R o:=by
 obtain ⟨S,e,h2⟩:=ztb hn hs R;unfold zo7;rw [e];exact h2 o
def zc2 (p:zc):BitVec 64:=zo7 p.H (wN p)
theorem zB.heap9 {p:zc}(h:zB p):p.H.Objs.length<=9/\∀l∈p.H.Objs,l.length<1000000:=by
 have:=h.n;have:=h.slots;exact ⟨by omega,fun l hl=>by have:=(h.objs l hl).1;omega⟩
theorem zxj {p:zc}(h:zB p):zjc p=some (zc2 p,()):=by
 have hr:=h.regs;have hm:=h.mt;rw [zqc,zoU (by omega) (fun r hr=>by have:=(h.reg r hr).1;omega),zBk,zv2 h.heap9.1 h.heap9.2];rfl
theorem zsB {p:zc}(h:zB p) (o:Int):zP (zc2 p) o=true↔Reach p.H (wN p) o:=zxu h.heap9.1 h.heap9.2 _ o
theorem zzt {h:zC}(hv:∀l∈h.Objs,∀v∈l,0<=v/\v<=(h.Objs.length:Int)) {o i:Int}(hne:zU h o i≠0):zU h o i∈zV h o/\1<=zU h o i/\zU h o i<=(h.Objs.length:Int):=by
 unfold zU at hne ⊢;split
 .rename_i hs;rw [zb hs] at hne;unfold xj at hs;simp only [zBl,decide_eq_true_eq] at hs;obtain ⟨⟨⟨h1,h2⟩,h3⟩,h4⟩:=hs;have eo:=zBn (show (o-1).toNat<h.Objs.length by omega);have es:zV h o=h.Objs[(o-1).toNat]'(by omega):=by unfold zV;rw [zBp,eo];rfl
  have ei:=zBn (show i.toNat<(zV h o).length by omega);have eg:(zV h o).getD i.toNat 0=(zV h o)[i.toNat]'(by omega):=by rw [zBp,ei];rfl
  rw [eg] at hne ⊢;have hm:(zV h o)[i.toNat]'(by omega)∈zV h o:=zBU _;have:=hv _ (by rw [es];exact zBU _) _ hm;exact ⟨hm,by omega,this.2⟩
 .rename_i hs;rw [zd hs] at hne;exact zk rfl hne
theorem zw1 (a b:BitVec 64):a&&& ~~~b=0#64↔∀o,zP a o=true->zP b o=true:=by
 constructor
 .intro h o ho;have hr:=(wm _ _).1 ho;refine Classical.byContradiction (fun hb=>?_);have:zP (a&&& ~~~b) o=true:=(Zp _ _ _).2 ⟨ho,(znR b ⟨hr.1,hr.2.1⟩).2 hb⟩;rw [h] at this;exact XB o this
 .intro h;refine zgs (fun o=>⟨fun e=>?_,fun e=>zk e (XB o)⟩);obtain ⟨e1,e2⟩:=(Zp _ _ _).1 e;have hr:=(wm _ _).1 e1;exact zk (h o e1) ((znR b ⟨hr.1,hr.2.1⟩).1 e2)
theorem uJ (s:za) (g:zH):(zx s g).1={s with M:=(zx s g).1.M,Bins:=(zx s g).1.Bins,T:=(zx s g).1.T,Work:=(zx s g).1.Work,Flag:=(zx s g).1.Flag}:=by
 obtain ⟨m,b,t,wk,f,e,_⟩:=zaH s g;rw [e]
theorem zcB {p:zc}{nb:Nat}{s:za}{w:Int}{x:zh}(W:WOk p nb w x):(zi s w x).1={s with M:=(zi s w x).1.M,Bins:=(zi s w x).1.Bins,T:=(zi s w x).1.T,Work:=(zi s w x).1.Work,L:=(zi s w x).1.L}:=by
 unfold zi;split
 .rfl
 split
 .rfl
 split
 .rfl
 split
 .rfl
 split
 .rfl
 split
 .rename_i h6;obtain ⟨g1,g2,g3,g4⟩:=W.g6 h6;have hf:=(zuN s g3 g4).2;obtain ⟨m,b,t,wk,f,e,_⟩:=zaH s x.G;dsimp only;rw [e] at hf ⊢;have hf:f=s.Flag:=hf;rw [hf]
 split
 .rfl
 split
 .rfl
 split<;>rfl
theorem zio (s:za) (m:Int) (x:zg):(zq s m x).1={s with H:=(zq s m x).1.H,M:=(zq s m x).1.M,Bins:=(zq s m x).1.Bins,T:=(zq s m x).1.T,Work:=(zq s m x).1.Work,Flag:=(zq s m x).1.Flag,Acks:=(zq s m x).1.Acks,L:=(zq s m x).1.L}:=by
 have g:∀g:zH,(zx s g).1={s with H:=(zx s g).1.H,M:=(zx s g).1.M,Bins:=(zx s g).1.Bins,T:=(zx s g).1.T,Work:=(zx s g).1.Work,Flag:=(zx s g).1.Flag,Acks:=(zx s g).1.Acks,L:=(zx s g).1.L}:=fun g=>by
  obtain ⟨m,b,t,wk,f,e,_⟩:=zaH s g;rw [e]
 refine xV (motive:=fun r=>r.1={s with H:=r.1.H,M:=r.1.M,Bins:=r.1.Bins,T:=r.1.T,Work:=r.1.Work,Flag:=r.1.Flag,Acks:=r.1.Acks,L:=r.1.L}) s m x ?_ ?_ ?_ ?_ ?_ ?_ ?_ ?_ ?_ ?_ ?_ ?_ ?_ ?_ ?_ ?_ ?_ ?_ ?_ ?_
 .exact fun _=>rfl
 .exact fun _=>rfl
 .exact fun _=>rfl
 .exact fun _=>g x.G
 .exact fun _=>rfl
 .exact fun _=>rfl
 .exact fun _=>rfl
 .exact fun _=>rfl
 .exact fun _=>rfl
 .intro _;unfold U0;split
  .split<;>rfl
  .rfl
 .exact fun _=>rfl
 .exact fun _=>rfl
 .exact fun _=>rfl
 .exact fun _=>rfl
 .exact fun _=>rfl
 .exact fun _=>rfl
 .exact fun _=>g x.G
 .exact fun _=>rfl
 .exact fun _=>rfl
 .rfl
def Xi (s:za) (k:Int):za:=if k=0 then wD s else if k<=(s.Ws.length:Int) then zt s k else zS s (k-s.Ws.length)
theorem XR {p:zc}{nb:Nat}{s:za}(E:EOk p nb s) (w:Int):zt s w={s with M:=(zt s w).M,Bins:=(zt s w).Bins,T:=(zt s w).T,Work:=(zt s w).Work,L:=(zt s w).L,Ws:=(zt s w).Ws}:=by
 unfold zt;split
 .rfl
 rename_i hc;cases hx:s.Ws[(w-1).toNat]? with
 | none=>rfl
 | some x =>
  have hW:=E.W _ _ hx;rw [show (((w-1).toNat:Nat):Int)+1=w by omega] at hW;dsimp only;rw [zcB hW]
structure AI (k:Int) (s:za):Prop where
 ep:0<=s.Epoch/\s.Epoch<=k
 m:∀(i:Nat) x,s.Ms[i]? =some x->s.Acks.getD i 0<=s.Epoch/\(x.PC=2\/((x.PC=1\/x.PC=3)/\x.Ret=2)->s.Acks.getD i 0<=x.Want/\x.Want<=s.Epoch)/\(x.PC=2->x.Buf=[])
def zAY (s s':za):Prop:=∀(i:Nat) x',s'.Ms[i]? =some x'->s.Acks.getD i 0<=s'.Acks.getD i 0/\s'.Acks.getD i 0<=s'.Epoch/\(s.Acks.getD i 0<s'.Acks.getD i 0->x'.Buf=[])
theorem AI.same {k:Int}{s s':za}(A:AI k s) (e1:s'.Epoch=s.Epoch) (e2:s'.Ms=s.Ms) (e3:s'.Acks=s.Acks):AI (k+1) s'/\zAY s s':=by
 refine ⟨⟨by rw [e1];have:=A.ep;omega,by rw [e1,e2,e3];exact A.m⟩,fun i x hx=>?_⟩;rw [e2] at hx;rw [e3,e1];exact ⟨zB2 _,(A.m i x hx).1,fun e=>by omega⟩
theorem zn7 {α:Type}{l:List α}{i j:Nat}{v d:α}(h:i<l.length):(l.set i v).getD j d=if i=j then v else l.getD j d:=by
 rw [zBp,zBp,zBZ];by_cases e:i=j
 .rw [zb e,zb e,zb h];rfl
 .rw [zd e,zd e]
theorem zzo (s:BitVec 64):0<=cnt s:=by
 unfold cnt;rw [zCE,zCi];have h1:(zC4 64 (zvc s).toInt).toNat&&&(zC4 64 127).toNat<=(zC4 64 127).toNat:=Nat.and_le_right;have h2:(zC4 64 127).toNat=127:=by decide
 split<;>omega
theorem zxl (s:za) (w:Int) (x:zh):(zi s w x).1.L=if x.PC=8 then Yi s.L 0 else s.L:=by
 by_cases h8:x.PC=8
 .rw [zb h8];unfold zi;rw [ze,ze,ze,ze,ze,ze,ze,zb h8]
 .rw [zd h8];unfold zi;split
  .rfl
  split
  .rfl
  split
  .rfl
  split
  .rfl
  split
  .rfl
  split
  .obtain ⟨m,b,t,wk,f,e,_⟩:=zaH s x.G;dsimp only;rw [e]
  split
  .rfl
  split<;>rfl
theorem zuI (s:za) (w:Int) {x:zh}(h:x.PC=8):(zi s w x).1.T=xP s.T x.Obj:=by
 unfold zi;rw [ze,ze,ze,ze,ze,ze,ze,zb h]
structure WD (p:zc) (s:za):Prop where
 H:s.H=p.H
 lv:∀o,zP s.T.Marks o=true->Reach p.H (wN p) o
 gob:∀(i:Nat) x,s.Ws[i]? =some x->x.PC=6->Reach p.H (wN p) x.G.Obj
 sc:s.L.Scanned=cnt s.T.Black/\s.L.Pool=s.L.Scanned
 rest:s.Flag=false/\s.Done=false/\s.Epoch=0/\s.L.Spent=0
theorem zAj {p:zc}(h:zB p):WD p (yW p):=by
 refine ⟨rfl,fun o ho=>?_,fun i x hx h6=>?_,?_,rfl,rfl,rfl,rfl⟩
 .have ho:zP (wN p) o=true:=ho;refine .root o ho ?_;have hr:=(wm _ _).1 ho;have hn:=h.n;have:=(Uk (n:=p.H.Objs.length) (by omega) o).1 (((zw1 _ _).1 (zeo h)) o ho);exact this
 .have hx:=zBq hx;obtain ⟨j,_,rfl⟩:=zBB.1 (show x∈(zC5 p.Workers.toNat).map (wY p) from hx);exact zk h6 (by show ¬(0:Int)=6;decide)
 .exact ⟨zyp.symm,rfl⟩
theorem zoc {p:zc}{s:za}{gh:Gh}{i:Nat}{x:zh}(hx:s.Ws[i]? =some x) {o:Int}(ho:o∈zY s x):o∈zkB p s gh :=
 zBJ _ (zCc.2 ⟨x,zBq hx,ho⟩)
theorem zaE {s:za}{x:zh}(h:x.PC=5\/x.PC=6\/x.PC=8):x.Obj∈zY s x:=by
 unfold zY W7;refine zBJ _ ?_;rw [ze,ze];by_cases h6:x.PC=6
 .rw [ze,zb h6];simp
 .rw [yo];simp
theorem WD.step {p:zc}(hp:zB p) {nb k:Nat}{s:za}{gh:Gh}(D:WD p s) (G:WG p nb k s gh) (L:zqh s) {w:Int}(hw:1<=w/\w<=p.Workers) (T:zvN s (zt s w) w):WD p (zt s w):=by
 have hwl:=G.E.wl;have hd:=D.rest.2.1;have e0: ¬(s.Done=true\/w<1\/(s.Ws.length:Int)<w):=by rw [hd];rintro (e | e | e)<;>first | cases e | omega
 have hi:(w-1).toNat<s.Ws.length:=by omega
 have hx:=zBn hi;generalize s.Ws[(w-1).toNat]=x at hx;have hWO:=G.E.W _ _ hx;rw [show (((w-1).toNat:Nat):Int)+1=w by omega] at hWO;have eS:zt s w={(zi s w x).1 with Ws:=s.Ws.set (w-1).toNat (zi s w x).2}:=by
  unfold zt;rw [zd e0,hx]
 have live_obj:(x.PC=5\/x.PC=6\/x.PC=8)->Reach p.H (wN p) x.Obj:=fun h=>D.lv _ ((vu _ _).1 ((G.B.gr _).1 (zoc hx (zaE h)))).1;have fr:=zcB (s:=s) hWO;have eL:=zxl s w x;refine ⟨?_,fun o ho=>?_,fun i y hy h6=>?_,?_,?_⟩
 .rw [eS];show (zi s w x).1.H=_;rw [fr];exact D.H
 .rcases T with e | ⟨y,q,hy,h6,rfl,hr,hn,e⟩ | ⟨y,hy,h8,h1,e⟩
  .rw [e] at ho;exact D.lv o ho
  .rw [e] at ho;rcases (wg _ hr o).1 ho with e | e
   .exact D.lv o e
   .rw [e];exact D.gob _ y hy h6
  .rw [e] at ho;exact D.lv o ho
 .rw [eS] at hy;have hy:(s.Ws.set (w-1).toNat (zi s w x).2)[i]? =some y:=hy;by_cases hj:i=(w-1).toNat
  .subst hj;rw [zB3 hi] at hy;injection hy with hy;subst hy;rcases zkl s w x h6 with ⟨a,b⟩ | ⟨a,b⟩
   .rw [b];exact D.gob _ x hx a
   .rw [b,D.H];have hne:zU p.H x.Obj x.Slot≠0:=fun e=>by
     revert h6;unfold zi;rw [ze,ze,ze,ze,zb a];dsimp only;rw [D.H,zb e];unfold onW;split<;>(intro h;cases h)
    have hs:=zzt (fun l hl=>(hp.objs l hl).2) hne;exact .step _ _ (live_obj (.inl a)) hs.1 hs.2
  .rw [zBI (fun e=>hj e.symm)] at hy;exact D.gob i y hy h6
 .have eL2:(zt s w).L=if x.PC=8 then Yi s.L 0 else s.L:=by rw [eS];exact eL
  have eT2:(zt s w).T=(zi s w x).1.T:=by rw [eS]
  by_cases h8:x.PC=8
  .have h1:=(G.B.gr _).1 (zoc (p:=p) (gh:=gh) hx (zaE (.inr (.inr h8))));have hr:=Xv h1;have hb:=(vu _ _).1 h1;have h9:∀o,zP s.T.Black o=true->o<=9:=fun o e=>L.mks o (G.B.blk o e);have hc:=zj4 h9;rw [eL2,zb h8,eT2,zuI s w h8];unfold xP Yi;rw [zb h1,ze];dsimp only;rw [zwT h9 ⟨hr.1,L.mks _ hb.1⟩ hb.2,D.sc.2,D.sc.1];have hn:0<=cnt s.T.Black:=zzo _;exact ⟨yP,rfl⟩
  .have:(zt s w).T.Black=s.T.Black:=by
    rcases T with e | ⟨y,q,hy,h6,rfl,hr,hn,e⟩ | ⟨y,hy,h8',h1,e⟩
    .rw [e]
    .rw [e]
    .rw [hx] at hy;injection hy with hy;subst hy;exact zk h8' h8
   rw [eL2,zd h8,this];exact D.sc
 .rw [eS];have e1:(zi s w x).1.L.Spent=s.L.Spent:=by
   rw [eL];split
   .unfold Yi;split<;>rfl
   .rfl
  show (zi s w x).1.Flag=false/\(zi s w x).1.Done=false/\(zi s w x).1.Epoch=0/\(zi s w x).1.L.Spent=0;rw [e1,fr];exact D.rest
def ub (x:zg):List Int:=if x.PC=33\/x.PC=34 then [x.Bin] else if x.PC=3\/x.PC=37 then wi x.G else []
def zay (s:za) (x:zg):List Int:=if x.PC=33 then xt s x.Bin else if x.PC=36\/x.PC=38 then [x.Obj] else if x.PC=37 then x.Obj::xn x.G else if x.PC=3 then xn x.G else []
def yh (s:za) (x:zg):List Int:=x.Batch++zay s x
structure MX (p:zc) (s:za) (gh:Gh) (x:zg):Prop where
 bt:x.PC<=33->x.Batch=[]
 bf:∀v∈x.Buf,1<=v/\v<=64
 ol:(x.PC=21->0<=x.Old/\x.Old<=64)/\(x.PC=22\/((x.PC=1\/x.PC=3)/\x.Ret=22)->1<=x.Old/\x.Old<=64)
 p3:x.PC=3->GX p s gh x.G/\x.G.Mode=2/\x.G.Out=0
 p32:x.PC=32->x.C.Out=0/\(0<=x.C.PC/\x.C.PC<=2)/\CK p s.M x.C
 p34:x.PC=34->x.C.Out=0/\(0<=x.C.PC/\x.C.PC<=2)/\x.C.X=x.Bin/\CK p s.M x.C
 p37:x.PC=37->GX p s gh x.G/\x.G.Mode=3/\x.G.Out=0
theorem MX.plain {p:zc}{s:za}{gh:Gh}{x:zg}(h:x.PC≠3/\x.PC≠32/\x.PC≠34/\x.PC≠37) (bt:x.PC<=33->x.Batch=[]) (bf:∀v∈x.Buf,1<=v/\v<=64)
  (ol:(x.PC=21->0<=x.Old/\x.Old<=64)/\(x.PC=22\/((x.PC=1\/x.PC=3)/\x.Ret=22)->1<=x.Old/\x.Old<=64)):MX p s gh x :=
 ⟨bt,bf,ol,fun e=>by omega,fun e=>by omega,fun e=>by omega,fun e=>by omega⟩
theorem uf {x:zg}(h:x.PC≠3/\x.PC≠33/\x.PC≠34/\x.PC≠37):ub x=[]:=by unfold ub;rw [ze,ze]
theorem zbY {x:zg}(h:x.PC=33\/x.PC=34):ub x=[x.Bin]:=by unfold ub;rw [zb h]
theorem zeZ {x:zg}(h:x.PC=3\/x.PC=37):ub x=wi x.G:=by unfold ub;rw [ze,zb h]
theorem uN {s:za}{x:zg}(h:x.PC≠3/\x.PC≠33/\x.PC≠36/\x.PC≠37/\x.PC≠38):zay s x=[]:=by unfold zay;rw [ze,ze,ze,ze]
theorem zmm {s:za}{x:zg}(h:x.PC=33):zay s x=xt s x.Bin:=by unfold zay;rw [zb h]
theorem VG {s:za}{x:zg}(h:x.PC=36\/x.PC=38):zay s x=[x.Obj]:=by unfold zay;rw [ze,zb h]
theorem zmk {s:za}{x:zg}(h:x.PC=37):zay s x=x.Obj::xn x.G:=by unfold zay;rw [ze,ze,zb h]
theorem zl7 {s:za}{x:zg}(h:x.PC=3):zay s x=xn x.G:=by unfold zay;rw [ze,ze,ze,zb h]
theorem MX.other {p:zc}(hp:zB p) {nb k:Nat}{s s':za}{gh gh':Gh}{X R:List Int}{O:Int->Prop}{m:Int}{x:zg}(Y:SX p nb s gh (X++R) k) (Fx:FX p nb X O s s' gh gh') (K:MX p s gh x) (W:XOk p nb m x)
  (hR:∀b∈ub x,b∈R):MX p s' gh' x/\yh s' x=yh s x:=by
 have hsub:∀b∈X,b∈X++R:=fun b hb=>zBH _ hb;have hnd:=(zCe.1 Y.L.nodup).2.1;have hnot:∀b,b∈ub x->b∉X:=fun b hb hg=>(zCe.1 hnd).2.2 b hg b (hR b hb) rfl;refine ⟨⟨K.bt,K.bf,K.ol,fun e=>?_,fun e=>?_,fun e=>?_,fun e=>?_⟩,?_⟩
 .obtain ⟨a,b,c⟩:=K.p3 e;obtain ⟨M,_,_⟩:=W.g (.inl e);exact ⟨a.other hp Y Fx M (fun y hy=>hR y (by rw [zeZ (.inl e)];exact hy)) (fun e2=>by omega),b,c⟩
 .obtain ⟨a,b,c⟩:=K.p32 e;have C:=W.c32 e;exact ⟨a,b,c.mv Y.L Fx.mv hsub (.inl C.h) (fun h _=>C.v h) (fun e2=>by have:=C.k;omega)⟩
 .obtain ⟨a,b,c,d⟩:=K.p34 e;have C:=W.c34 e;have hno:=hnot x.Bin (by rw [zbY (.inr e)];simp);exact ⟨a,b,c,d.mv Y.L Fx.mv hsub (.inr C.h) (fun _ e2=>by have:=C.k;omega) (fun _=>⟨C.x.1,C.x.2,by rw [c];exact hno⟩)⟩
 .obtain ⟨a,b,c⟩:=K.p37 e;obtain ⟨M,_,_⟩:=W.g (.inr e);exact ⟨a.other hp Y Fx M (fun y hy=>hR y (by rw [zeZ (.inr e)];exact hy)) (fun e2=>by omega),b,c⟩
 .unfold yh;congr 1;by_cases e3:x.PC=33
  .rw [zmm e3,zmm e3];have hb:=W.b33 e3;have hno:=hnot x.Bin (by rw [zbY (.inl e3)];simp);unfold xt;rw [Fx.bn x.Bin hb.1 hno]
  .unfold zay;rw [zd e3,zd e3]
def zd0 (p:zc) (nb k:Nat) (R:List Int) (gh:Gh) (s:za) (x:zg) (s':za) (x':zg):Prop :=
 ∃gh',SX p nb s' gh' (ub x'++R) (k+1)/\MX p s' gh' x'/\FX p nb (ub x) (fun _=>False) s s' gh gh' /\
  ∃N B,zC6 (yK p s' gh'++yh s' x'++B) (N++(yK p s gh++yh s x)) /\
   ((N=[]/\B=[]/\s'.T=s.T)\/(N=[x.G.Obj]/\B=[]/\(x.PC=3\/x.PC=37)/\¬(s.T.Marks|||bit x.G.Obj=s.T.Marks)/\s'.T={s.T with Marks:=s.T.Marks|||bit x.G.Obj})\/(N=[]/\B=[x.Obj]/\x.PC=38/\s'.T=xP s.T x.Obj) \/
    (N=[]/\B=[]/\x.PC=30/\W3 s.H s.P.Most=true/\s'.H=wK s.H/\s'.T=X3 s.T (wc (s.H.Objs.length+1))))
theorem zd0.quiet {p:zc}{nb k:Nat}{R:List Int}{gh:Gh}{s s':za}{x x':zg}(X:SX p nb s gh (ub x++R) k) (S':SOk p nb s') (hm:s'.M=s.M) (hb:s'.Bins=s.Bins) (hT:s'.T=s.T)
  (ho:ub x'=ub x) (hh:zC6 (yh s' x') (yh s x)) (W':MX p s' gh x'):zd0 p nb k R gh s x s' x' :=
 ⟨gh,by rw [ho];exact X.quiet S' hm,W',FX.quiet hm (fun _ _ _=>by rw [hb]),[],[],by rw [Zc hb,zBo];exact zBA _ hh,.inl ⟨rfl,rfl,hT⟩⟩
theorem zd0.calm {p:zc}{nb k:Nat}{R:List Int}{gh:Gh}{s s':za}{x x':zg}(X:SX p nb s gh (ub x++R) k) (S':SOk p nb s') (hm:s'.M=s.M) (hb:s'.Bins=s.Bins) (hT:s'.T=s.T)
  (h:x.PC≠3/\x.PC≠33/\x.PC≠34/\x.PC≠36/\x.PC≠37/\x.PC≠38) (h':x'.PC≠3/\x'.PC≠32/\x'.PC≠33/\x'.PC≠34/\x'.PC≠36/\x'.PC≠37/\x'.PC≠38) (eb:x'.Batch=x.Batch)
  (bt:x'.PC<=33->x'.Batch=[]) (bf:∀v∈x'.Buf,1<=v/\v<=64) (ol:(x'.PC=21->0<=x'.Old/\x'.Old<=64)/\(x'.PC=22\/((x'.PC=1\/x'.PC=3)/\x'.Ret=22)->1<=x'.Old/\x'.Old<=64)):zd0 p nb k R gh s x s' x':=by
 refine .quiet X S' hm hb hT ?_ ?_ (MX.plain (by omega) bt bf ol)
 .rw [uf (by omega),uf (by omega)]
 .unfold yh;rw [uN (by omega),uN (by omega),eb]
theorem zps {p:zc}{s:za}{gh:Gh}{md o w:Int}(hmd:md=2\/md=3) (ho:1<=o/\o<=64):GX p s gh (Zh md o w)/\(Zh md o w).Mode=md/\(Zh md o w).Out=0/\wi (Zh md o w)=[]/\xn (Zh md o w)=[]:=by
 refine ⟨GX.plain (.inl rfl) ⟨by show (0:Int)<=0;decide,by show (0:Int)<=7;decide⟩ ⟨by show 1<=md;omega,by show md<=3;omega⟩ ho (fun e=>by have e:md=1:=e;omega) (.inr ⟨by show (0:Int)≠3;decide,by show (0:Int)≠5;decide,by show (0:Int)≠7;decide⟩),rfl,rfl,
  vA (.inr ⟨by show (0:Int)≠6;decide,by show (0:Int)≠7;decide⟩),Zy (.inr (.inl (by show (0:Int)<3;decide)))⟩
theorem zAJ {p:zc}(hp:zB p) {nb k:Nat}{R:List Int}{gh:Gh}{s:za}{m:Int}{x:zg}(hk:k<4294960000) (X:SX p nb s gh (ub x++R) k) (W:XOk p nb m x) (K:MX p s gh x) (hpl:((XY p m).length:Int)<=64)
  (hH:∀o i,0<=zU s.H o i/\zU s.H o i<=64):zd0 p nb k R gh s x (zq s m x).1 (zq s m x).2:=by
 have S':=(zxE hp hpl X.S W).1;have hP:=X.S.P;have eC:Wf s.P (zO s.P) x.Bin=Wf p (zO p) x.Bin:=by rw [hP]
 have hbf:=K.bf;have hol:=K.ol;revert S';refine xV (motive:=fun r=>SOk p nb r.1->zd0 p nb k R gh s x r.1 r.2) s m x ?_ ?_ ?_ ?_ ?_ ?_ ?_ ?_ ?_ ?_ ?_ ?_ ?_ ?_ ?_ ?_ ?_ ?_ ?_ ?_
 .intro c;unfold mu0 zaj;dsimp only;have hbt:=K.bt (by omega)
  repeat' split
  all_goals (intro S')
  all_goals (refine .calm X S' rfl rfl rfl (by omega) (by (try dsimp only [setM]);omega) rfl (fun _=>hbt) hbf ⟨fun e=>?_,fun e=>?_⟩<;>((try dsimp only [setM] at e);omega))
 .intro c;unfold mu1;dsimp only;have hbt:=K.bt (by omega);have hrt:=W.ret (.inl c);split
  .intro S';exact .calm X S' rfl rfl rfl (by omega) (by dsimp only;omega) rfl (fun _=>hbt) hbf ⟨fun e=>by dsimp only at e;omega,fun e=>by dsimp only at e ⊢;exact hol.2 (by omega)⟩
  .rename_i hl;intro S';have hv:1<=x.Buf.getD (x.Buf.length-1) 0/\x.Buf.getD (x.Buf.length-1) 0<=64:=by
    rw [zBp,zBn (show x.Buf.length-1<x.Buf.length by omega)];exact hbf _ (zBU _)
   obtain ⟨g1,g2,g3,g4,g5⟩:=zps (p:=p) (s:=s) (gh:=gh) (w:=m) (.inl rfl) hv;refine .quiet X S' rfl rfl rfl ?_ ?_ ⟨fun _=>hbt,fun v hv=>hbf v (zCL hv),⟨fun e=>(by cases e),fun e=>?_⟩,fun _=>⟨g1,g2,g3⟩,fun e=>(by cases e),fun e=>(by cases e),fun e=>(by cases e)⟩
   .rw [uf (x:=x) (by omega),zeZ (.inl rfl)];exact g4
   .unfold yh;rw [uN (x:=x) (by omega),zl7 rfl];show zC6 (x.Batch++xn (Zh 2 (x.Buf.getD (x.Buf.length-1) 0) m)) _;rw [g5]
   .rcases e with e | e
    .cases e
    .exact hol.2 (.inr ⟨.inl c,e.2⟩)
 .intro c S';unfold mu2 at S' ⊢;exact .calm X S' rfl rfl rfl (by omega) (by dsimp only;omega) rfl (fun _=>K.bt (by omega)) hbf ⟨fun e=>by dsimp only at e;omega,fun e=>by dsimp only at e;omega⟩
 .intro c;unfold mu3;dsimp only;have hbt:=K.bt (by omega);obtain ⟨G,gm,g0⟩:=K.p3 c;obtain ⟨M,h5o,hn1⟩:=W.g (.inl c);have eo:ub x=wi x.G:=zeZ (.inl c);have hh:yh s x=xn x.G:=by unfold yh;rw [zl7 c,hbt,zBy]
  rw [eo] at X;obtain ⟨gh',X',G',Fx,hc',hFb,N,hN,hT⟩:=zu9 hp hk X M h5o G;have so:=Ue s x.G;have Fx':FX p nb (ub x) (fun _=>False) s (zx s x.G).1 gh gh':=by rw [eo];exact Fx.mono (fun v e=>by have:=e.1;omega)
  have hT':(N=[]/\([]:List Int)=[]/\(zx s x.G).1.T=s.T)\/(N=[x.G.Obj]/\([]:List Int)=[]/\(x.PC=3\/x.PC=37)/\¬(s.T.Marks|||bit x.G.Obj=s.T.Marks)/\(zx s x.G).1.T={s.T with Marks:=s.T.Marks|||bit x.G.Obj}):=by
   rcases hT with ⟨a,b⟩ | ⟨a,b,c'⟩
   .exact .inl ⟨a,rfl,b⟩
   .exact .inr ⟨a,rfl,.inl c,b,c'⟩
  split
  .rename_i o1;intro S';have n1:wi (zx s x.G).2=[]:=vA (.inl (by omega));have n2:xn (zx s x.G).2=[]:=Zy (.inl (by omega));rw [n1] at X';refine ⟨gh',by rw [uf (by dsimp only;omega)];exact X',MX.plain (by dsimp only;omega) (fun _=>hbt) hbf ⟨fun e=>(by cases e),fun e=>?_⟩,Fx',N,[],?_,hT'.elim .inl (fun h=>.inr (.inl h))⟩
   .rcases e with e | e
    .cases e
    .exact hol.2 (.inr ⟨.inr c,e.2⟩)
   .unfold yh;rw [uN (by dsimp only;omega),zBo,zBo];rw [n2,zBo] at hN;show zC6 (yK p (zx s x.G).1 gh'++x.Batch) (N++(yK p s gh++(x.Batch++zay s x)));rw [hbt,zl7 c,zBo,zBy];exact hN
  .rename_i o1;intro S';have o0:(zx s x.G).2.Out=0:=by have:=G'.o;omega
   refine ⟨gh',by rw [zeZ (x:={x with G:=(zx s x.G).2}) (.inl c)];exact X',⟨fun _=>hbt,hbf,hol,fun _=>⟨G',so.2.2.trans gm,o0⟩,fun e=>by have e:x.PC=32:=e;omega,fun e=>by have e:x.PC=34:=e;omega,fun e=>by have e:x.PC=37:=e;omega⟩,Fx',N,[],?_,hT'.elim .inl (fun h=>.inr (.inl h))⟩;unfold yh;rw [zl7 (x:={x with G:=(zx s x.G).2}) c,zBo];show zC6 (yK p (zx s x.G).1 gh'++(x.Batch++xn (zx s x.G).2)) (N++(yK p s gh++(x.Batch++zay s x)));rw [hbt,zl7 c,zBy,zBy];exact hN
 .intro c S';unfold zg0 at S' ⊢;exact .calm X S' rfl rfl rfl (by omega) (by dsimp only [setM];omega) rfl (fun _=>K.bt (by omega)) hbf ⟨fun e=>by dsimp only [setM] at e;omega,fun e=>by dsimp only [setM] at e;omega⟩
 .intro c;unfold zdH;dsimp only;have hbt:=K.bt (by omega);split
  .intro S';exact .calm X S' rfl rfl rfl (by omega) (by dsimp only [vP];omega) rfl (fun _=>hbt) hbf ⟨fun e=>by dsimp only [vP] at e;omega,fun e=>by dsimp only [vP] at e;omega⟩
  .intro S';exact .calm X S' rfl rfl rfl (by omega) (by dsimp only;omega) rfl (fun _=>hbt) hbf ⟨fun _=>hH _ _,fun e=>by dsimp only at e;omega⟩
 .intro c;unfold zd7;dsimp only;have hbt:=K.bt (by omega);have h21:=hol.1 c;split
  .intro S';exact .calm X S' rfl rfl rfl (by omega) (by dsimp only;omega) rfl (fun _=>hbt) hbf ⟨fun e=>by dsimp only at e;omega,fun e=>by dsimp only at e;omega⟩
  .rename_i hn;intro S';have: ¬x.Old=0:=fun e=>hn (.inl e);exact .calm X S' rfl rfl rfl (by omega) (by dsimp only;omega) rfl (fun _=>hbt) hbf ⟨fun e=>by dsimp only at e;omega,fun e=>by dsimp only;omega⟩
 .intro c;unfold zdz;dsimp only;have hbt:=K.bt (by omega);have h22:=hol.2 (.inl c);split
  .intro S';exact .calm X S' rfl rfl rfl (by omega) (by dsimp only;omega) rfl (fun _=>hbt) hbf ⟨fun e=>by dsimp only at e;omega,fun e=>h22⟩
  .intro S';refine .calm X S' rfl rfl rfl (by omega) (by dsimp only;omega) rfl (fun _=>hbt) (fun v hv=>?_) ⟨fun e=>by dsimp only at e;omega,fun e=>by dsimp only at e;omega⟩;rcases zBE.1 hv with h | h
   .exact hbf v h
   .rw [zCb.1 h];exact h22
 .intro c S';unfold zfD at S' ⊢;exact .calm X S' rfl rfl rfl (by omega) (by dsimp only [vP];omega) rfl (fun _=>K.bt (by omega)) hbf ⟨fun e=>by dsimp only [vP] at e;omega,fun e=>by dsimp only [vP] at e;omega⟩
 .intro c;unfold U0;have hbt:=K.bt (by omega);split
  .split
   .rename_i h1 h2;intro S';refine ⟨gh,by rw [uf (by dsimp only [setM];omega)];rw [uf (x:=x) (by omega)] at X;exact X.quiet S' rfl,MX.plain (by dsimp only [setM];omega) (fun _=>hbt) hbf ⟨fun e=>by dsimp only [setM] at e;omega,fun e=>by dsimp only [setM] at e;omega⟩,FX.quiet rfl (fun _ _ _=>rfl),[],[],?_,.inr (.inr (.inr ⟨rfl,rfl,c,h2,rfl,rfl⟩))⟩;rw [Zc rfl,zBo,zBy];unfold yh;rw [uN (by dsimp only [setM];omega),uN (x:=x) (by omega)];exact zBY _
   .intro S';exact .calm X S' rfl rfl rfl (by omega) (by dsimp only [vP];omega) rfl (fun _=>hbt) hbf ⟨fun e=>by dsimp only [vP] at e;omega,fun e=>by dsimp only [vP] at e;omega⟩
  .intro S';exact .calm X S' rfl rfl rfl (by omega) (by dsimp only;omega) rfl (fun _=>hbt) hbf ⟨fun e=>by dsimp only at e;omega,fun e=>by dsimp only at e;omega⟩
 .intro c;unfold zea;dsimp only;have hbt:=K.bt (by omega);split
  .intro S';refine .quiet X S' rfl rfl rfl (by rw [uf (by dsimp only;omega),uf (x:=x) (by omega)]) ?_ ⟨fun _=>hbt,hbf,⟨fun e=>by dsimp only at e;omega,fun e=>by dsimp only at e;omega⟩,fun e=>by dsimp only at e;omega,fun _=>⟨rfl,⟨by show (0:Int)<=0;decide,by show (0:Int)<=2;decide⟩,by show CK p s.M (zqo s.P (yb s.P) x.Bin);rw [hP];exact CK.start⟩,fun e=>by dsimp only at e;omega,fun e=>by dsimp only at e;omega⟩;unfold yh;rw [uN (by dsimp only;omega),uN (x:=x) (by omega)]
  .intro S';exact .calm X S' rfl rfl rfl (by omega) (by dsimp only;omega) rfl (fun _=>hbt) hbf ⟨fun e=>by dsimp only at e;omega,fun e=>by dsimp only at e;omega⟩
 .intro c;unfold zdD;dsimp only;have C:=W.c32 c;obtain ⟨c1,c2,c3⟩:=K.p32 c;have hbt:=K.bt (by omega);have eo:ub x=[]:=uf (by omega);have hh:yh s x=[]:=by unfold yh;rw [hbt,uN (by omega)];rfl
  have nn:∀e:x.PC=21,False:=fun e=>by omega
  intro S';have S':SOk p nb {s with M:=(zo s.M x.C).1}:=S';rcases SX.popF hp X hk C.k C.h C.n c1 c2 c3 C.v S' with ⟨a,b,cc,d⟩ | ⟨y,l,a,b,cc,d,e⟩
  .rw [zd b];have hout:=WN s.M c1 c2 (.inr C.k);by_cases o2:(zo s.M x.C).2.Out=2
   .rw [zb o2];exact .calm X S' a rfl rfl (by omega) (by dsimp only;omega) rfl (fun _=>hbt) hbf ⟨fun e=>by dsimp only at e;omega,fun e=>by dsimp only at e;omega⟩
   .rw [zd o2];have hpc':(zo s.M x.C).2.Out=0/\0<=(zo s.M x.C).2.PC/\(zo s.M x.C).2.PC<=2:=by omega
    refine .quiet X S' a rfl rfl ?_ ?_ ⟨fun _=>hbt,hbf,hol,fun e=>by have e:x.PC=3:=e;omega,fun _=>⟨hpc'.1,hpc'.2,?_⟩,fun e=>by have e:x.PC=34:=e;omega,fun e=>by have e:x.PC=37:=e;omega⟩
    .rw [eo];exact uf (by dsimp only;omega)
    .unfold yh;rw [uN (by dsimp only;omega),uN (x:=x) (by omega)]
    .rw [show ({s with M:=(zo s.M x.C).1}:za).M=s.M from a];exact cc
  .rw [zb b];have e1:ub {x with PC:=33,Bin:=(zo s.M x.C).2.X,C:=(zo s.M x.C).2}=[y]:=by rw [<-cc];exact zbY (x:={x with PC:=33,Bin:=(zo s.M x.C).2.X,C:=(zo s.M x.C).2}) (.inl rfl)
   refine ⟨{gh with F:=l},by rw [e1];rw [eo] at d;exact d,MX.plain (by dsimp only;omega) (fun _=>hbt) hbf ⟨fun e=>by dsimp only at e;omega,fun e=>by dsimp only at e;omega⟩,e _ _,[],[],?_,.inl ⟨rfl,rfl,rfl⟩⟩;rw [hh,zBo,zBo,zBy];unfold yh;rw [zmm (x:={x with PC:=33,Bin:=(zo s.M x.C).2.X,C:=(zo s.M x.C).2}) rfl];show zC6 (yK p s {gh with F:=l}++(x.Batch++xt s (zo s.M x.C).2.X)) _;rw [hbt,zBy,cc];have:yK p s gh=xt s y++yK p s {gh with F:=l}:=by unfold yK;rw [a];simp [zBu]
   rw [this];exact zB5
 .intro c;unfold zhw;dsimp only;intro S';have hb:=W.b33 c;have hbt:=K.bt (by omega);have eo:ub x=[x.Bin]:=zbY (.inl c);rw [eC] at *;have e1:ub {x with Batch:=Xy s x.Bin,PC:=34,C:=Wf p (zO p) x.Bin}=[x.Bin]:=zbY (x:={x with Batch:=Xy s x.Bin,PC:=34,C:=Wf p (zO p) x.Bin}) (.inr rfl);have hget:∀b,1<=b->b∉ub x->(s.Bins.set x.Bin.toNat [])[b.toNat]? =s.Bins[b.toNat]? :=fun b b1 b2=>by
   rw [zBI];intro e;rw [eo] at b2;exact b2 (by rw [show b=x.Bin by omega];simp)
  refine ⟨gh,by rw [e1,<-eo];exact X.quiet S' rfl,⟨fun e=>zk e (by show ¬(34:Int)<=33;decide),hbf,⟨fun e=>by dsimp only at e;omega,fun e=>by dsimp only at e;omega⟩,fun e=>by dsimp only at e;omega,fun e=>by dsimp only at e;omega,fun _=>⟨rfl,⟨by show (0:Int)<=0;decide,by show (0:Int)<=2;decide⟩,rfl,CK.start⟩,fun e=>by dsimp only at e;omega⟩,FX.quiet rfl hget,[],[],?_,.inl ⟨rfl,rfl,rfl⟩⟩;have hbag:yK p {s with Bins:=s.Bins.set x.Bin.toNat []} gh=yK p s gh:=by
   unfold yK;congr 1;refine wq (fun b hb=>?_);have hm:=X.L.cF.mem b hb;have hno:=(X.L.notF (x:=x.Bin) (by rw [eo];simp)).1;unfold xt;rw [show ({s with Bins:=s.Bins.set x.Bin.toNat []}:za).Bins=s.Bins.set x.Bin.toNat [] from rfl,hget b hm.1 (by rw [eo];intro e;rw [zCb.1 e] at hb;exact hno hb)]
  rw [hbag,zBo,zBy];unfold yh;rw [zmm c,uN (x:={x with Batch:=Xy s x.Bin,PC:=34,C:=Wf p (zO p) x.Bin}) (by dsimp only;omega)];show zC6 (yK p s gh++(Xy s x.Bin++[])) _;rw [hbt,zBo,zBy,zku]
 .intro c;unfold zdX;dsimp only;intro S';have S':SOk p nb {s with M:=(zo s.M x.C).1}:=S';have C:=W.c34 c;obtain ⟨c1,c2,c3,c4⟩:=K.p34 c;have eo:ub x=[x.Bin]:=zbY (.inr c);have hh:yh s x=x.Batch:=by unfold yh;rw [uN (by omega),zBo]
  rw [eo] at X;rcases SX.pushE hp (o1:=[]) (o2:=R) (b:=x.Bin) X hk C.k C.h C.n c3 c1 c2 c4 C.v S' with ⟨a,b,cc,d⟩ | ⟨a,b,d⟩
  .rw [a,zd (by decide)];have hout:=WN s.M c1 c2 (.inl C.k);have hsame:=ziK s.M x.C;have hpc':0<=(zo s.M x.C).2.PC/\(zo s.M x.C).2.PC<=2:=by omega
   have e1:ub {x with C:=(zo s.M x.C).2}=[x.Bin]:=zbY (x:={x with C:=(zo s.M x.C).2}) (.inr c);refine ⟨gh,by rw [e1];exact b,⟨fun e=>by have e:x.PC<=33:=e;omega,hbf,hol,fun e=>by have e:x.PC=3:=e;omega,fun e=>by have e:x.PC=32:=e;omega,fun _=>⟨a,hpc',(hsame.2.2.2 C.k).trans c3,cc⟩,fun e=>by have e:x.PC=37:=e;omega⟩,by rw [eo];exact d _ _ (by simp),[],[],?_,.inl ⟨rfl,rfl,rfl⟩⟩;rw [Zc rfl,hh,zBo];unfold yh;rw [uN (x:={x with C:=(zo s.M x.C).2}) (by dsimp only;omega),zBo];exact zBY _
  .rw [a,zb rfl];refine ⟨{gh with E:=x.Bin::gh.E},by rw [uf (by dsimp only;omega)];exact b,MX.plain (by dsimp only;omega) (fun e=>zk e (by show ¬(35:Int)<=33;decide)) hbf ⟨fun e=>by dsimp only at e;omega,fun e=>by dsimp only at e;omega⟩,by rw [eo];exact d _ _,[],[],?_,.inl ⟨rfl,rfl,rfl⟩⟩;rw [hh,zBo];unfold yh;rw [uN (by dsimp only;omega),zBo];exact zBY _
 .intro c;unfold zdG;dsimp only;split
  .rename_i hb;intro S';exact .calm X S' rfl rfl rfl (by omega) (by dsimp only;omega) rfl (fun _=>hb) hbf ⟨fun e=>by dsimp only at e;omega,fun e=>by dsimp only at e;omega⟩
  .rename_i o l hb;intro S';refine .quiet X S' rfl rfl rfl (by rw [uf (by dsimp only;omega),uf (x:=x) (by omega)]) ?_ (MX.plain (by dsimp only;omega) (fun e=>zk e (by show ¬(36:Int)<=33;decide)) hbf ⟨fun e=>by dsimp only at e;omega,fun e=>by dsimp only at e;omega⟩);unfold yh;rw [VG (.inl rfl),uN (x:=x) (by omega),hb,zBo];exact zB5
 .intro c;unfold zd4;dsimp only;have hv:=hH x.Obj x.Slot;have eo:ub x=[]:=uf (by omega);split
  .rcases zbp s (wc (x.Slot+1)) with e | e<;>rw [e]<;>intro S'
   .refine .quiet X S' rfl rfl rfl (by rw [eo,uf (by dsimp only;omega)]) ?_ (MX.plain (by dsimp only;omega) (fun e=>zk e (by show ¬(36:Int)<=33;decide)) hbf ⟨fun e=>by dsimp only at e;omega,fun e=>by dsimp only at e;omega⟩);unfold yh;rw [VG (.inl c),VG (.inl rfl)]
   .refine .quiet X S' rfl rfl rfl (by rw [eo,uf (by dsimp only;omega)]) ?_ (MX.plain (by dsimp only;omega) (fun e=>zk e (by show ¬(38:Int)<=33;decide)) hbf ⟨fun e=>by dsimp only at e;omega,fun e=>by dsimp only at e;omega⟩);unfold yh;rw [VG (.inl c),VG (.inr rfl)]
  .rename_i hne;intro S';obtain ⟨g1,g2,g3,g4,g5⟩:=zps (p:=p) (s:=s) (gh:=gh) (w:=m) (.inr rfl) (show 1<=zU s.H x.Obj x.Slot/\zU s.H x.Obj x.Slot<=64 by omega);refine .quiet X S' rfl rfl rfl ?_ ?_ ⟨fun e=>zk e (by show ¬(37:Int)<=33;decide),hbf,⟨fun e=>by dsimp only at e;omega,fun e=>by dsimp only at e;omega⟩,fun e=>by dsimp only at e;omega,fun e=>by dsimp only at e;omega,fun e=>by dsimp only at e;omega,fun _=>⟨g1,g2,g3⟩⟩
   .rw [eo,zeZ (.inr rfl)];exact g4
   .unfold yh;rw [VG (.inl c),zmk rfl];show zC6 (x.Batch++x.Obj::xn (Zh 3 (zU s.H x.Obj x.Slot) m)) _;rw [g5]
 .intro c;unfold UY;dsimp only;obtain ⟨G,gm,g0⟩:=K.p37 c;obtain ⟨M,h5o,hn1⟩:=W.g (.inr c);have eo:ub x=wi x.G:=zeZ (.inr c);have hh:yh s x=x.Batch++x.Obj::xn x.G:=by unfold yh;rw [zmk c]
  rw [eo] at X;obtain ⟨gh',X',G',Fx,hc',hFb,N,hN,hT⟩:=zu9 hp hk X M h5o G;have so:=Ue s x.G;have Fx':FX p nb (ub x) (fun _=>False) s (zx s x.G).1 gh gh':=by rw [eo];exact Fx.mono (fun v e=>by have:=e.1;omega)
  have hT':(N=[]/\([]:List Int)=[]/\(zx s x.G).1.T=s.T)\/(N=[x.G.Obj]/\([]:List Int)=[]/\(x.PC=3\/x.PC=37)/\¬(s.T.Marks|||bit x.G.Obj=s.T.Marks)/\(zx s x.G).1.T={s.T with Marks:=s.T.Marks|||bit x.G.Obj}):=by
   rcases hT with ⟨a,b⟩ | ⟨a,b,c'⟩
   .exact .inl ⟨a,rfl,b⟩
   .exact .inr ⟨a,rfl,.inr c,b,c'⟩
  have perm:∀H':List Int,H'=x.Batch++x.Obj::xn (zx s x.G).2->zC6 (yK p (zx s x.G).1 gh'++H'++[]) (N++(yK p s gh++yh s x)):=by
   intro H' e;rw [e,hh,zBo];have a1:zC6 (yK p (zx s x.G).1 gh'++(x.Batch++x.Obj::xn (zx s x.G).2)) ((x.Batch++[x.Obj])++(yK p (zx s x.G).1 gh'++xn (zx s x.G).2)):=by
    rw [show x.Batch++x.Obj::xn (zx s x.G).2=(x.Batch++[x.Obj])++xn (zx s x.G).2 by simp];exact zBO _ _ _
   have a2:zC6 (N++(yK p s gh++(x.Batch++x.Obj::xn x.G))) ((x.Batch++[x.Obj])++(N++(yK p s gh++xn x.G))):=by
    rw [show x.Batch++x.Obj::xn x.G=(x.Batch++[x.Obj])++xn x.G by simp];exact (zBA N (zBO _ _ _)).trans (zBO _ _ _)
   exact a1.trans ((zBA _ hN).trans a2.symm)
  split
  .rename_i o1;intro S';have n1:wi (zx s x.G).2=[]:=vA (.inl (by omega));have n2:xn (zx s x.G).2=[]:=Zy (.inl (by omega));rw [n1] at X';rcases zbp s x.Slot with e | e<;>rw [e]
   .refine ⟨gh',by rw [uf (by dsimp only;omega)];exact X',MX.plain (by dsimp only;omega) (fun e=>zk e (by show ¬(36:Int)<=33;decide)) hbf ⟨fun e=>by dsimp only at e;omega,fun e=>by dsimp only at e;omega⟩,Fx',N,[],perm _ ?_,hT'.elim .inl (fun h=>.inr (.inl h))⟩;unfold yh;rw [VG (.inl rfl),n2]
   .refine ⟨gh',by rw [uf (by dsimp only;omega)];exact X',MX.plain (by dsimp only;omega) (fun e=>zk e (by show ¬(38:Int)<=33;decide)) hbf ⟨fun e=>by dsimp only at e;omega,fun e=>by dsimp only at e;omega⟩,Fx',N,[],perm _ ?_,hT'.elim .inl (fun h=>.inr (.inl h))⟩;unfold yh;rw [VG (.inr rfl),n2]
  .rename_i o1;intro S';have o0:(zx s x.G).2.Out=0:=by have:=G'.o;omega
   refine ⟨gh',by rw [zeZ (x:={x with G:=(zx s x.G).2}) (.inr c)];exact X',⟨fun e=>by have e:x.PC<=33:=e;omega,hbf,hol,fun e=>by have e:x.PC=3:=e;omega,fun e=>by have e:x.PC=32:=e;omega,fun e=>by have e:x.PC=34:=e;omega,fun _=>⟨G',so.2.2.trans gm,o0⟩⟩,Fx',N,[],perm _ ?_,hT'.elim .inl (fun h=>.inr (.inl h))⟩;unfold yh;rw [zmk (x:={x with G:=(zx s x.G).2}) c]
 .intro c S';unfold zfi at S' ⊢;have eo:ub x=[]:=uf (by omega);refine ⟨gh,by rw [uf (by dsimp only;omega)];rw [eo] at X;exact X.quiet S' rfl,MX.plain (by dsimp only;omega) (fun e=>zk e (by show ¬(39:Int)<=33;decide)) hbf ⟨fun e=>by dsimp only at e;omega,fun e=>by dsimp only at e;omega⟩,FX.quiet rfl (fun _ _ _=>rfl),[],[x.Obj],?_,.inr (.inr (.inl ⟨rfl,rfl,c,rfl⟩))⟩;rw [Zc rfl,zBy];unfold yh;rw [VG (.inr c),uN (by dsimp only;omega),zBo,zBu];exact zBY _
 .intro c S';unfold zhe at S' ⊢;exact .calm X S' rfl rfl rfl (by omega) (by dsimp only;omega) rfl (fun e=>zk e (by show ¬(35:Int)<=33;decide)) hbf ⟨fun e=>by dsimp only at e;omega,fun e=>by dsimp only at e;omega⟩
 .intro S';exact ⟨gh,X.quiet S' rfl,K,FX.quiet rfl (fun _ _ _=>rfl),[],[],by rw [zBo];exact zBY _,.inl ⟨rfl,rfl,rfl⟩⟩
theorem vw (a b:BitVec 64) (q:Int):zP (a|||b) q=true↔zP a q=true\/zP b q=true:=by
 rw [wm,wm,wm,BitVec.getLsbD_or,zCx];constructor
 .rintro ⟨h1,h2,h | h⟩
  .exact .inl ⟨h1,h2,h⟩
  .exact .inr ⟨h1,h2,h⟩
 .rintro (⟨h1,h2,h⟩ | ⟨h1,h2,h⟩)
  .exact ⟨h1,h2,.inl h⟩
  .exact ⟨h1,h2,.inr h⟩
theorem VP (h:zC) (a i v:Int):(Zw h a i v).Objs.length=h.Objs.length:=by
 unfold Zw;split<;>simp
theorem VX (h:zC):(wK h).Objs.length=h.Objs.length+1:=by unfold wK;simp
theorem zru {t:zA}{o:Int}(ho:1<=o/\o<=64) (hm: ¬zP t.Marks o=true) (hb: ¬zP t.Black o=true):vT t o=({t with Marks:=t.Marks|||bit o},true):=by
 unfold vT;rw [zd ((Um ho).2 hm),zb];unfold zP at hb;simpa using hb
theorem ztP {o q:Int}(h:zP (bit o) q=true):q=o:=by
 by_cases ho:1<=o/\o<=64
 .have:=(wg 0#64 ho q).1 (by simpa using h);exact this.resolve_left (XB q)
 .unfold bit at h;rw [zd ho] at h;exact zk h (XB q)
theorem ZS {m:BitVec 64}{o q:Int}(h:zP (m|||bit o) q=true):zP m q=true\/q=o:=((vw _ _ _).1 h).imp id ztP
theorem zr3 (t:zA) (o:Int):yT t o=2↔zP t.Marks o=true/\zP t.Black o=true:=by
 unfold yT;cases h:zP (t.Marks&&&t.Black) o with
 | true=>simp only [if_true,true_iff];exact (Zp _ _ o).1 h
 | false =>
  have hn: ¬(zP t.Marks o=true/\zP t.Black o=true):=fun e=>by rw [(Zp _ _ o).2 e] at h;cases h
  simp only [zBT,if_false];constructor
  .intro e;split at e<;>omega
  .intro e;exact zk e hn
theorem zeT (t:zA) (o:Int):(vT t o).1.Black=t.Black/\((vT t o).1.Marks=t.Marks\/(vT t o).1.Marks=t.Marks|||bit o):=by
 unfold vT;split
 .exact ⟨rfl,.inl rfl⟩
 split
 .exact ⟨rfl,.inr rfl⟩
 .exact ⟨rfl,.inl rfl⟩
theorem zaO (t:zA) (o:Int):(xP t o).Marks=t.Marks/\((xP t o).Black=t.Black\/((xP t o).Black=t.Black|||bit o/\zP t.Marks o=true)):=by
 unfold xP;split
 .rename_i h;exact ⟨rfl,.inr ⟨rfl,((vu t o).1 h).1⟩⟩
 .exact ⟨rfl,.inl rfl⟩
theorem zwo (s:za) (g:zH):(zx s g).1.T=s.T\/(zx s g).1.T=(vT s.T g.Obj).1:=by
 unfold zx;split
 .exact .inl rfl
 split
 .exact .inl rfl
 split
 .exact .inl rfl
 split
 .exact .inl rfl
 split
 .exact .inl rfl
 split
 .exact .inl rfl
 split
 .exact .inl rfl
 split
 .exact .inr rfl
 .exact .inl rfl
theorem znT (s:za) (m:Int) (x:zg) :
  ((zq s m x).1.H.Objs.length=s.H.Objs.length/\((zq s m x).1.T=s.T\/((zq s m x).1.T=(vT s.T x.G.Obj).1/\(x.PC=3\/x.PC=37))\/(zq s m x).1.T=xP s.T x.Obj) /\
   ((zq s m x).1.L=s.L\/(∃w,(zq s m x).1.L=(zbI s.L m w).1)\/(zq s m x).1.L=Yi s.L m)) \/
  ((zq s m x).1.H=wK s.H/\(zq s m x).1.T=X3 s.T (wc (s.H.Objs.length+1))/\(zq s m x).1.L=Ux s.L m s.P.Price/\ziE s.L m s.P.Price s.P.Limit=true/\W3 s.H s.P.Most=true):=by
 refine xV (motive:=fun r=>(r.1.H.Objs.length=s.H.Objs.length/\(r.1.T=s.T\/(r.1.T=(vT s.T x.G.Obj).1/\(x.PC=3\/x.PC=37))\/r.1.T=xP s.T x.Obj)/\(r.1.L=s.L\/(∃w,r.1.L=(zbI s.L m w).1)\/r.1.L=Yi s.L m)) \/
  (r.1.H=wK s.H/\r.1.T=X3 s.T (wc (s.H.Objs.length+1))/\r.1.L=Ux s.L m s.P.Price/\ziE s.L m s.P.Price s.P.Limit=true/\W3 s.H s.P.Most=true)) s m x ?_ ?_ ?_ ?_ ?_ ?_ ?_ ?_ ?_ ?_ ?_ ?_ ?_ ?_ ?_ ?_ ?_ ?_ ?_ ?_
 .intro c;exact .inl ⟨rfl,.inl rfl,.inl rfl⟩
 .intro c;exact .inl ⟨rfl,.inl rfl,.inl rfl⟩
 .intro c;exact .inl ⟨rfl,.inl rfl,.inl rfl⟩
 .intro c;unfold mu3;refine .inl ⟨by rw [uJ],(zwo s x.G).imp id (fun h=>.inl ⟨h,.inl c⟩),.inl (by rw [uJ])⟩
 .intro c;exact .inl ⟨rfl,.inl rfl,.inl rfl⟩
 .intro c;exact .inl ⟨rfl,.inl rfl,.inl rfl⟩
 .intro c;exact .inl ⟨rfl,.inl rfl,.inl rfl⟩
 .intro c;exact .inl ⟨rfl,.inl rfl,.inl rfl⟩
 .intro c;exact .inl ⟨VP _ _ _ _,.inl rfl,.inl rfl⟩
 .intro c;unfold U0;split
  .split
   .rename_i h1 h2;exact .inr ⟨rfl,rfl,rfl,h1,h2⟩
   .exact .inl ⟨rfl,.inl rfl,.inl rfl⟩
  .exact .inl ⟨rfl,.inl rfl,.inl rfl⟩
 .intro c;exact .inl ⟨rfl,.inl rfl,.inr (.inl ⟨_,rfl⟩)⟩
 .intro c;exact .inl ⟨rfl,.inl rfl,.inl rfl⟩
 .intro c;exact .inl ⟨rfl,.inl rfl,.inl rfl⟩
 .intro c;exact .inl ⟨rfl,.inl rfl,.inl rfl⟩
 .intro c;exact .inl ⟨rfl,.inl rfl,.inl rfl⟩
 .intro c;exact .inl ⟨rfl,.inl rfl,.inl rfl⟩
 .intro c;unfold UY;refine .inl ⟨by rw [uJ],(zwo s x.G).imp id (fun h=>.inl ⟨h,.inr c⟩),.inl (by rw [uJ])⟩
 .intro c;exact .inl ⟨rfl,.inr (.inr rfl),.inr (.inr rfl)⟩
 .intro c;exact .inl ⟨rfl,.inl rfl,.inl rfl⟩
 .exact .inl ⟨rfl,.inl rfl,.inl rfl⟩
def zcv (n:Int) (x:zg):Prop:=(∀v∈x.Buf,v<=n)/\x.Old<=n/\(x.PC=3\/x.PC=37->x.G.Obj<=n)
theorem zsi {h:zC}{n:Int}(h0:0<=n) (hv:∀l∈h.Objs,∀v∈l,v<=n) (o i:Int):zU h o i<=n:=by
 unfold zU;split
 .rw [zBp];cases hx:(zV h o)[i.toNat]? with
  | none=>exact h0
  | some v =>
   have hm:=zBq hx;unfold zV at hm;rw [zBp] at hm;cases hy:h.Objs[(o-1).toNat]? with
   | none=>rw [hy] at hm;cases hm
   | some l=>rw [hy] at hm;exact hv l (zBq hy) v hm
 .exact h0
def zlg (Q:Int->Prop) (x:zg):Prop:=(∀v∈x.Buf,Q v)/\Q x.Old/\(x.PC=3\/x.PC=37->Q x.G.Obj)
theorem ztn {p:zc}{nb:Nat}{s:za}{m:Int}{x:zg}(X:XOk p nb m x) {Q:Int->Prop}(h0:Q 0) (hg:∀r i,Q (zU s.H (uF x r) i)) (hg2:x.PC=36->Q (zU s.H x.Obj x.Slot)) (B:zlg Q x):zlg Q (zq s m x).2:=by
 obtain ⟨b1,b2,b3⟩:=B;have no:∀ {y:zg},(∀v∈y.Buf,Q v)->Q y.Old->¬(y.PC=3\/y.PC=37)->zlg Q y:=fun h1 h2 h3=>⟨h1,h2,fun e=>zk e h3⟩
 refine xV (motive:=fun r=>zlg Q r.2) s m x ?_ ?_ ?_ ?_ ?_ ?_ ?_ ?_ ?_ ?_ ?_ ?_ ?_ ?_ ?_ ?_ ?_ ?_ ?_ ?_
 .intro c;unfold mu0 zaj
  repeat' split
  all_goals exact no b1 b2 (by dsimp only [setM];omega)
 .intro c;unfold mu1;dsimp only;split
  .exact no b1 b2 (by have:=X.ret (.inl c);show ¬(x.Ret=3\/x.Ret=37);omega)
  .rename_i hl;refine ⟨fun v hv=>b1 v (zCL hv),b2,fun _=>?_⟩;show Q (x.Buf.getD (x.Buf.length-1) 0);rw [zBp,zBn (show x.Buf.length-1<x.Buf.length by omega)];exact b1 _ (zBU _)
 .intro c;unfold mu2;exact no b1 b2 (by show ¬((0:Int)=3\/(0:Int)=37);decide)
 .intro c;unfold mu3;dsimp only;split
  .exact no b1 b2 (by show ¬((1:Int)=3\/(1:Int)=37);decide)
  .exact ⟨b1,b2,fun _=>by show Q (zx s x.G).2.Obj;rw [(Ue s x.G).1];exact b3 (.inl c)⟩
 .intro c;unfold zg0;exact no b1 b2 (by show ¬((0:Int)=3\/(0:Int)=37);decide)
 .intro c;unfold zdH;dsimp only;split
  .exact no b1 b2 (by show ¬((0:Int)=3\/(0:Int)=37);decide)
  .exact no b1 (hg _ _) (by show ¬((21:Int)=3\/(21:Int)=37);decide)
 .intro c;unfold zd7;dsimp only;split
  .exact no b1 h0 (by show ¬((23:Int)=3\/(23:Int)=37);decide)
  .exact no b1 b2 (by show ¬((22:Int)=3\/(22:Int)=37);decide)
 .intro c;unfold zdz;dsimp only;split
  .exact no b1 b2 (by show ¬((1:Int)=3\/(1:Int)=37);decide)
  .refine no (fun v hv=>?_) h0 (by show ¬((23:Int)=3\/(23:Int)=37);decide);rcases zBE.1 hv with h | h
   .exact b1 v h
   .rw [zCb.1 h];exact b2
 .intro c;unfold zfD;exact no b1 b2 (by show ¬((0:Int)=3\/(0:Int)=37);decide)
 .intro c;unfold U0;split
  .split
   .exact no b1 b2 (by show ¬((0:Int)=3\/(0:Int)=37);decide)
   .exact no b1 b2 (by show ¬((0:Int)=3\/(0:Int)=37);decide)
  .exact no b1 b2 (by show ¬((31:Int)=3\/(31:Int)=37);decide)
 .intro c;unfold zea;dsimp only;split
  .exact no b1 b2 (by show ¬((32:Int)=3\/(32:Int)=37);decide)
  .exact no b1 b2 (by show ¬((0:Int)=3\/(0:Int)=37);decide)
 .intro c;unfold zdD;dsimp only;split
  .exact no b1 b2 (by show ¬((33:Int)=3\/(33:Int)=37);decide)
  split
  .exact no b1 b2 (by show ¬((0:Int)=3\/(0:Int)=37);decide)
  .exact no b1 b2 (by show ¬(x.PC=3\/x.PC=37);omega)
 .intro c;unfold zhw;exact no b1 b2 (by show ¬((34:Int)=3\/(34:Int)=37);decide)
 .intro c;unfold zdX;dsimp only;split
  .exact no b1 b2 (by show ¬((35:Int)=3\/(35:Int)=37);decide)
  .exact no b1 b2 (by show ¬(x.PC=3\/x.PC=37);omega)
 .intro c;unfold zdG;dsimp only;split
  .exact no b1 b2 (by show ¬((0:Int)=3\/(0:Int)=37);decide)
  .exact no b1 b2 (by show ¬((36:Int)=3\/(36:Int)=37);decide)
 .intro c;unfold zd4;dsimp only;split
  .exact no b1 b2 (by have:=zbp s (wc (x.Slot+1));show ¬(onM s (wc (x.Slot+1))=3\/onM s (wc (x.Slot+1))=37);omega)
  .exact ⟨b1,b2,fun _=>hg2 c⟩
 .intro c;unfold UY;dsimp only;split
  .exact no b1 b2 (by have:=zbp s x.Slot;show ¬(onM s x.Slot=3\/onM s x.Slot=37);omega)
  .exact ⟨b1,b2,fun _=>by show Q (zx s x.G).2.Obj;rw [(Ue s x.G).1];exact b3 (.inr c)⟩
 .intro c;unfold zfi;exact no b1 b2 (by show ¬((39:Int)=3\/(39:Int)=37);decide)
 .intro c;unfold zhe;exact no b1 b2 (by show ¬((35:Int)=3\/(35:Int)=37);decide)
 .exact ⟨b1,b2,b3⟩
theorem zq0 {p:zc}{nb:Nat}{s:za}{m:Int}{x:zg}(X:XOk p nb m x) {n:Int}(h0:0<=n) (hv:∀l∈s.H.Objs,∀v∈l,v<=n) (B:zcv n x):zcv n (zq s m x).2 :=
 ztn (Q:=fun v=>v<=n) X h0 (fun _ _=>zsi h0 hv _ _) (fun _=>zsi h0 hv _ _) B
theorem zd3:∀(l:List Int) (i:Nat) (v:Int),i<l.length->(l.set i v).sum=l.sum-l.getD i 0+v
 | [],i,v,h=>by simp at h
 | a::l,0,v,h=>by simp only [List.set_cons_zero,zCn,List.getD_cons_zero];omega
 | a::l,i+1,v,h=>by
  simp only [List.set_cons_succ,zCn,List.getD_cons_succ,zd3 l i v (by simpa using h)];omega
structure LdI (p:zc) (k d:Int) (l:zD):Prop where
 pool:l.Pool=0
 sc:0<=l.Scanned/\l.Scanned<=k
 sp:l.Spent=p.Price*d
 bal:∀b∈l.Bal,-p.Limit<=b/\b<=k
 sum:l.Bal.sum=l.Scanned-l.Spent
theorem LdI.more {p:zc}{k d:Int}{l:zD}(I:LdI p k d l):LdI p (k+1) d l :=
 ⟨I.pool,by have:=I.sc;omega,I.sp,fun b hb=>by have:=I.bal b hb;omega,I.sum⟩
theorem zww {l:List Int}{i:Nat}(h:i<l.length):l.getD i 0∈l:=by
 rw [zBp,zBn h];exact zBU h
theorem LdI.take {p:zc}{k d:Int}{l:zD}(I:LdI p k d l) (m w:Int):(zbI l m w).1=l:=by
 unfold zbI zmb;rw [zd];rintro ⟨_,h⟩;rw [I.pool] at h;split at h<;>omega
theorem LdI.earn {p:zc}(hp:zB p) {k d:Int}(hk:0<=k/\k<=1000) {l:zD}(I:LdI p k d l) {m:Int}(hm:1<=m/\m<=(l.Bal.length:Int)):LdI p (k+1) d (Yi l m):=by
 have hsc:=I.sc;have hl:=hp.limit;have hb:=I.bal _ (zww (l:=l.Bal) (i:=(m-1).toNat) (by omega));unfold Yi;rw [zb hm];have w1:wc (l.Scanned+1)=l.Scanned+1:=yP;have w2:wc (l.Bal.getD (m-1).toNat 0+1)=l.Bal.getD (m-1).toNat 0+1:=yP;rw [w1,w2];refine ⟨I.pool,by dsimp only;omega,I.sp,fun b hb'=>?_,?_⟩
 .rcases zBX hb' with h | rfl
  .have:=I.bal b h;omega
  .omega
 .dsimp only;rw [zd3 _ _ _ (by omega),I.sum];omega
theorem zlz {a d:Int}(h:0<=a/\a<=3):a*(d+1)=a*d+a:=by rw [Int.mul_add,Int.mul_one]
theorem zsY {a d:Int}(h:0<=a/\a<=3) (hd:0<=d/\d<=10):0<=a*d/\a*d<=30:=by
 refine ⟨Int.mul_nonneg h.1 hd.1,?_⟩;have:=Int.mul_le_mul h.2 hd.2 hd.1 (by decide:(0:Int)<=3);omega
theorem LdI.spend {p:zc}(hp:zB p) {k d:Int}(hk:0<=k/\k<=1000) (hd:0<=d/\d<=9) {l:zD}(I:LdI p k d l) {m:Int}(h:ziE l m p.Price p.Limit=true):LdI p (k+1) (d+1) (Ux l m p.Price):=by
 have hsc:=I.sc;have hl:=hp.limit;have hpr:=hp.price;have hsp:=zsY hpr (d:=d) (by omega);have e1:=I.sp;unfold ziE zmn zlv at h;simp only [zBl,decide_eq_true_eq] at h;obtain ⟨⟨⟨⟨⟨⟨m1,m2⟩,_⟩,_⟩,_⟩,_⟩,h⟩:=h;have hb:=I.bal _ (zww (l:=l.Bal) (i:=(m-1).toNat) (by omega));unfold zf1 at h;rw [yP,yP] at h;unfold Ux zf1;rw [yP,yP];refine ⟨I.pool,by dsimp only;omega,?_,fun b hb'=>?_,?_⟩
 .dsimp only;rw [zlz hpr];omega
 .rcases zBX hb' with h2 | rfl
  .have:=I.bal b h2;omega
  .omega
 .dsimp only;rw [zd3 _ _ _ (by omega),I.sum];omega
structure NwI (p:zc) (k:Int) (s:za):Prop where
 mrk:∀o,zP s.T.Marks o=true->o<=(s.H.Objs.length:Int)
 bm:∀o,zP s.T.Black o=true->zP s.T.Marks o=true
 bk:∀o,(p.H.Objs.length:Int)<o->o<=(s.H.Objs.length:Int)->yT s.T o=2
 buf:∀x∈s.Ms,zcv (s.H.Objs.length:Int) x
 bl:s.L.Bal.length=s.Ms.length
 L:LdI p k ((s.H.Objs.length:Int)-(p.H.Objs.length:Int)) s.L
theorem zxU (l:zD) (m:Int):(Yi l m).Bal.length=l.Bal.length:=by unfold Yi;split<;>simp
theorem NwI.step {p:zc}{nb:Nat}(hp:zB p) {k:Int}(hk:0<=k/\k<=1000) {s:za}(E:EOk p nb s) (I:NwI p k s) (m:Int):NwI p (k+1) (zS s m):=by
 have hN:=E.H.n;have hM:=hp.most;have hn6:=hp.n;unfold zS;split
 .exact ⟨I.mrk,I.bm,I.bk,I.buf,I.bl,I.L.more⟩
 rename_i hne;cases hx:s.Ms[(m-1).toNat]? with
 | none=>exact ⟨I.mrk,I.bm,I.bk,I.buf,I.bl,I.L.more⟩
 | some x =>
  have hm:1<=m/\m<=(s.Ms.length:Int):=by omega
  have X:=E.X _ x hx;have B:=I.buf x (zBq hx);have em:(((m-1).toNat:Nat):Int)+1=m:=by omega
  rw [em] at X;have B':=zq0 (s:=s) X (n:=(s.H.Objs.length:Int)) (by omega) (fun l hl v hv=>((E.H.objs l hl).2 v hv).2) B;have bufs:∀N':Int,(s.H.Objs.length:Int)<=N'->∀y∈s.Ms.set (m-1).toNat (zq s m x).2,zcv N' y:=fun N' hN' y hy=>by
   have up:∀ {z:zg},zcv (s.H.Objs.length:Int) z->zcv N' z:=fun ⟨a,b,c⟩=>⟨fun v hv=>by have:=a v hv;omega,by omega,fun e=>by have:=c e;omega⟩
   rcases zBX hy with h | rfl
   .exact up (I.buf y h)
   .exact up B'
  have hL:=I.L;rcases znT s m x with ⟨k1,k2,k3⟩ | ⟨k1,k2,k3,k4,k5⟩
  .refine ⟨fun o ho=>?_,fun o ho=>?_,fun o h1 h2=>?_,?_,?_,?_⟩
   .dsimp only at ho ⊢;rw [k1];rcases k2 with e | ⟨e,hpc⟩ | e
    .rw [e] at ho;exact I.mrk o ho
    .rw [e] at ho;rcases (zeT s.T x.G.Obj).2 with e2 | e2
     .rw [e2] at ho;exact I.mrk o ho
     .rw [e2] at ho;rcases ZS ho with h | rfl
      .exact I.mrk o h
      .exact B.2.2 hpc
    .rw [e,(zaO s.T x.Obj).1] at ho;exact I.mrk o ho
   .dsimp only at ho ⊢;rcases k2 with e | ⟨e,hpc⟩ | e
    .rw [e] at ho ⊢;exact I.bm o ho
    .rw [e] at ho ⊢;rw [(zeT s.T x.G.Obj).1] at ho;have:=I.bm o ho;rcases (zeT s.T x.G.Obj).2 with e2 | e2
     .rw [e2];exact this
     .rw [e2];exact (vw _ _ _).2 (.inl this)
    .rw [e] at ho ⊢;rw [(zaO s.T x.Obj).1];rcases (zaO s.T x.Obj).2 with e2 | ⟨e2,h3⟩
     .rw [e2] at ho;exact I.bm o ho
     .rw [e2] at ho;rcases ZS ho with h | rfl
      .exact I.bm o h
      .exact h3
   .dsimp only at h2 ⊢;rw [k1] at h2;have h:=(zr3 _ _).1 (I.bk o h1 h2);rw [zr3];rcases k2 with e | ⟨e,hpc⟩ | e
    .rw [e];exact h
    .rw [e,(zeT s.T x.G.Obj).1];refine ⟨?_,h.2⟩;rcases (zeT s.T x.G.Obj).2 with e2 | e2
     .rw [e2];exact h.1
     .rw [e2];exact (vw _ _ _).2 (.inl h.1)
    .rw [e,(zaO s.T x.Obj).1];refine ⟨h.1,?_⟩;rcases (zaO s.T x.Obj).2 with e2 | ⟨e2,_⟩
     .rw [e2];exact h.2
     .rw [e2];exact (vw _ _ _).2 (.inl h.2)
   .dsimp only;rw [k1];exact bufs _ (zB2 _)
   .dsimp only;rw [zBF];rcases k3 with e | ⟨w,e⟩ | e
    .rw [e];exact I.bl
    .rw [e,hL.take];exact I.bl
    .rw [e,zxU];exact I.bl
   .dsimp only;rw [k1];rcases k3 with e | ⟨w,e⟩ | e
    .rw [e];exact hL.more
    .rw [e,hL.take];exact hL.more
    .rw [e];exact hL.earn hp hk (by have:=I.bl;omega)
  .have w:wc ((s.H.Objs.length:Int)+1)=(s.H.Objs.length:Int)+1:=yP;have hal:=VX s.H;have hP:=E.S.P;have hr:(s.H.Objs.length:Int)<s.P.Most:=by
    unfold W3 at k5;simp only [zBl,decide_eq_true_eq] at k5;exact k5.1
   rw [hP] at hr k3 k4;rw [w] at k2;have nm: ¬zP s.T.Marks ((s.H.Objs.length:Int)+1)=true:=fun e=>by have:=I.mrk _ e;omega
   have nb': ¬zP s.T.Black ((s.H.Objs.length:Int)+1)=true:=fun e=>nm (I.bm _ e);have hsh:=zru (t:=s.T) (o:=(s.H.Objs.length:Int)+1) (by omega) nm nb';have ht1:yT {s.T with Marks:=s.T.Marks|||bit ((s.H.Objs.length:Int)+1)} ((s.H.Objs.length:Int)+1)=1 :=
    (vu _ _).2 ⟨(wg _ (by omega) _).2 (.inr rfl),nb'⟩
   have hT:(zq s m x).1.T=⟨s.T.Marks|||bit ((s.H.Objs.length:Int)+1),s.T.Black|||bit ((s.H.Objs.length:Int)+1)⟩:=by
    rw [k2];unfold X3;rw [hsh];dsimp only;rw [zb rfl];unfold xP;rw [zb ht1]
   refine ⟨fun o ho=>?_,fun o ho=>?_,fun o h1 h2=>?_,?_,?_,?_⟩
   .dsimp only at ho ⊢;rw [k1,hal];rw [hT] at ho;rcases ZS ho with h | rfl
    .have:=I.mrk o h;omega
    .omega
   .dsimp only at ho ⊢;rw [hT] at ho ⊢;dsimp only at ho ⊢;rw [vw];rcases (vw _ _ _).1 ho with h | h
    .exact .inl (I.bm o h)
    .exact .inr h
   .dsimp only at h2 ⊢;rw [k1,hal] at h2;rw [zr3,hT];dsimp only;by_cases ho:o<=(s.H.Objs.length:Int)
    .have h:=(zr3 _ _).1 (I.bk o h1 ho);exact ⟨(vw _ _ _).2 (.inl h.1),(vw _ _ _).2 (.inl h.2)⟩
    .have:o=(s.H.Objs.length:Int)+1:=by omega
     subst this;exact ⟨(wg _ (by omega) _).2 (.inr rfl),(wg _ (by omega) _).2 (.inr rfl)⟩
   .dsimp only;rw [k1,hal];exact bufs _ (by omega)
   .dsimp only;rw [zBF,k3];unfold Ux;rw [zBF];exact I.bl
   .dsimp only;rw [k3,k1,hal];have:=hL.spend hp hk (by omega) k4;have e:((s.H.Objs.length+1:Nat):Int)-(p.H.Objs.length:Int)=(s.H.Objs.length:Int)-(p.H.Objs.length:Int)+1:=by omega
    rw [e];exact this
def Zf (p:zc) (s:za) (g:Gh):List Int:=yK p s g++(s.Ws.flatMap (zY s)++s.Ms.flatMap (yh s))
structure FG (p:zc) (nb k:Nat) (s:za) (gh:Gh):Prop where
 E:EOk p nb s
 X:SX p nb s gh (s.Ws.flatMap wj++s.Ms.flatMap ub) k
 W:∀(i:Nat) x,s.Ws[i]? =some x->WX p s gh ((i:Int)+1) x
 M:∀(i:Nat) x,s.Ms[i]? =some x->MX p s gh x
 B:U9 (Zf p s gh) s.T
 mrk:∀o,zP s.T.Marks o=true->o<=(s.H.Objs.length:Int)
 wob:∀(i:Nat) x,s.Ws[i]? =some x->x.PC=6->x.G.Obj<=(s.H.Objs.length:Int)
 buf:∀x∈s.Ms,zcv (s.H.Objs.length:Int) x
 bk:∀o,(p.H.Objs.length:Int)<o->o<=(s.H.Objs.length:Int)->zP s.T.Black o=true
 ne:∀y∈gh.F,xt s y≠[]
theorem FX.ne {p:zc}{nb k:Nat}{s s':za}{gh gh':Gh}{Y R:List Int}{O:Int->Prop}(X:SX p nb s gh (Y++R) k) (Fx:FX p nb Y O s s' gh gh') (h:∀y∈gh.F,xt s y≠[]):∀y∈gh'.F,xt s' y≠[]:=fun y hy =>
 (Fx.fb y hy).elim (fun hy=>by
  have h1:=zrd.1 (X.L.all.subset (zBH _ (zBH _ hy)));have h2:y∉Y:=fun e=>(X.L.notF (zBH _ e)).1 hy;have:=Fx.bn y h1.1 h2;unfold xt;rw [this];exact h y hy) id
theorem MX.state {p:zc}{s s':za}{gh:Gh}{x:zg}(W:MX p s gh x) (hm:s'.M=s.M) (hb:s'.Bins=s.Bins):MX p s' gh x :=
 ⟨W.bt,W.bf,W.ol,fun e=>⟨(W.p3 e).1.state hm hb,(W.p3 e).2⟩,by rw [hm];exact W.p32,by rw [hm];exact W.p34,fun e=>⟨(W.p37 e).1.state hm hb,(W.p37 e).2⟩⟩
theorem zeq {s s':za}{x:zg}(hb:s'.Bins=s.Bins):yh s' x=yh s x:=by
 unfold yh zay xt;rw [hb]
def X6 (s s':za):Prop :=
 (s'.T=s.T/\s'.H.Objs.length=s.H.Objs.length) \/
 (∃o,(1<=o/\o<=(s.H.Objs.length:Int))/\¬zP s.T.Marks o=true/\s'.T={s.T with Marks:=s.T.Marks|||bit o}/\s'.H=s.H) \/
 (∃o,yT s.T o=1/\s'.T={s.T with Black:=s.T.Black|||bit o}/\s'.H=s.H) \/
 (s'.H=wK s.H/\(s.H.Objs.length:Int)<9/\s'.T=⟨s.T.Marks|||bit ((s.H.Objs.length:Int)+1),s.T.Black|||bit ((s.H.Objs.length:Int)+1)⟩)
theorem FG.tints {p:zc}{nb k:Nat}{s:za}{gh:Gh}(G:FG p nb k s gh) {s':za}(F:X6 s s') :
  (∀o,zP s'.T.Marks o=true->o<=(s'.H.Objs.length:Int))/\(∀o,(p.H.Objs.length:Int)<o->o<=(s'.H.Objs.length:Int)->zP s'.T.Black o=true):=by
 rcases F with ⟨e,h⟩ | ⟨o,ho,hn,e,h⟩ | ⟨o,ho,e,h⟩ | ⟨h,hl,e⟩
 .rw [e,h];exact ⟨G.mrk,G.bk⟩
 .rw [e,h];refine ⟨fun q hq=>?_,G.bk⟩;rcases ZS hq with hq | rfl
  .exact G.mrk q hq
  .exact ho.2
 .rw [e,h];exact ⟨G.mrk,fun q h1 h2=>(vw _ _ _).2 (.inl (G.bk q h1 h2))⟩
 .rw [e,h];have hal:=VX s.H;refine ⟨fun q hq=>?_,fun q h1 h2=>?_⟩
  .rcases ZS hq with hq | rfl
   .have:=G.mrk q hq;omega
   .omega
  .dsimp only;by_cases hq:q<=(s.H.Objs.length:Int)
   .exact (vw _ _ _).2 (.inl (G.bk q h1 hq))
   .have:q=(s.H.Objs.length:Int)+1:=by omega
    subst this;exact (wg _ (by omega) _).2 (.inr rfl)
theorem FG.det {p:zc}(hp:zB p) {nb k:Nat}{s:za}{gh:Gh}(G:FG p nb k s gh) (hd:({wD s with Epoch:=s.Epoch,Flag:=s.Flag,Done:=s.Done,Restarts:=s.Restarts,D:=s.D}:za)=s):FG p nb (k+1) (wD s) gh:=by
 have hE:=zAW hp G.E;have eM:(wD s).M=s.M:=by conv=>rhs;rw [<-hd]
 have eB:(wD s).Bins=s.Bins:=by conv=>rhs;rw [<-hd]
 have eT:(wD s).T=s.T:=by conv=>rhs;rw [<-hd]
 have eH:(wD s).H=s.H:=by conv=>rhs;rw [<-hd]
 have eW:(wD s).Ws=s.Ws:=by conv=>rhs;rw [<-hd]
 have eX:(wD s).Ms=s.Ms:=by conv=>rhs;rw [<-hd]
 refine ⟨hE,?_,?_,?_,?_,by rw [eT,eH];exact G.mrk,by rw [eW,eH];exact G.wob,by rw [eX,eH];exact G.buf,by rw [eT,eH];exact G.bk,by unfold xt;rw [eB];exact G.ne⟩
 .rw [eW,eX];exact G.X.quiet hE.S eM
 .rw [eW];exact fun i x hx=>(G.W i x hx).state eM eB
 .rw [eX];exact fun i x hx=>(G.M i x hx).state eM eB
 .have e:Zf p (wD s) gh=Zf p s gh:=by
   unfold Zf;rw [eW,eX,Zc eB,wq (fun x _=>zbk (x:=x) eM eB),wq (fun x _=>zeq (x:=x) eB)]
  rw [e,eT];exact G.B
theorem FG.worker {p:zc}(hp:zB p) {nb k:Nat}{s:za}{gh:Gh}(hk:k<4294960000) (G:FG p nb k s gh) {w:Int}(hw:1<=w/\w<=p.Workers) (hd:s.Done=false):∃gh',FG p nb (k+1) (zt s w) gh'/\X6 s (zt s w) /\
  ∃x,s.Ws[(w-1).toNat]? =some x/\∃N C,zC6 (Zf p (zt s w) gh'++C) (N++Zf p s gh)/\((N=[]/\C=[]/\(zi s w x).1.T=s.T)\/(N=[x.G.Obj]/\C=[]/\x.PC=6/\¬(s.T.Marks|||bit x.G.Obj=s.T.Marks)/\(zi s w x).1.T={s.T with Marks:=s.T.Marks|||bit x.G.Obj})\/(N=[]/\C=[x.Obj]/\x.PC=8/\(zi s w x).1.T=xP s.T x.Obj)):=by
 have hE:=zd6 hp G.E w;have hwl:=G.E.wl;have e0: ¬(s.Done=true\/w<1\/(s.Ws.length:Int)<w):=by rw [hd];rintro (e | e | e)<;>first | cases e | omega
 revert hE;unfold zt;rw [zd e0];have hi:(w-1).toNat<s.Ws.length:=by omega
 have hx:=zBn hi;generalize s.Ws[(w-1).toNat]=x at hx;rw [hx];dsimp only;intro hE;obtain ⟨a,b,el,es,hab,hba⟩:=zhc hx;have ei:(((w-1).toNat:Nat):Int)+1=w:=by omega
 have hWX:=G.W _ x hx;have hWO:=G.E.W _ x hx;rw [ei] at hWX hWO;have hfr:=zcB (s:=s) hWO;have eH:(zi s w x).1.H=s.H:=by rw [hfr]
 have eMs:(zi s w x).1.Ms=s.Ms:=by rw [hfr]
 have X0:SX p nb s gh (wj x++((a++b).flatMap wj++s.Ms.flatMap ub)) k:=by
  refine G.X.perm ?_;rw [<-zBu];refine zCR _ ?_
  conv=>rhs;rw [el]
  exact uS.symm
 obtain ⟨gh',X',W',Fx,N,C,hN,hT⟩:=zzb hp hk hw X0 hWO hWX (fun o i=>G.E.H.get hp o i);have hoth:∀(j:Nat) y,j≠(w-1).toNat->s.Ws[j]? =some y->WX p (zi s w x).1 gh' ((j:Int)+1) y/\zY (zi s w x).1 y=zY s y:=by
  intro j y hj hy;have hjl:=(zBt.1 hy).1;exact WX.other hp (w:=(j:Int)+1) (by omega) X0 Fx (G.W j y hy) (G.E.W j y hy) (fun z hz=>zBH _ (zCc.2 ⟨y,hba j y hj hy,hz⟩)) (fun e=>hj (by omega))
 have hmut:∀(j:Nat) y,s.Ms[j]? =some y->MX p (zi s w x).1 gh' y/\yh (zi s w x).1 y=yh s y:=by
  intro j y hy;exact MX.other hp X0 Fx (G.M j y hy) (G.E.X j y hy) (fun z hz=>zBJ _ (zCc.2 ⟨y,zBq hy,hz⟩))
 have hbag:zC6 (Zf p {(zi s w x).1 with Ws:=s.Ws.set (w-1).toNat (zi s w x).2} gh'++C) (N++Zf p s gh):=by
  unfold Zf;have q2:(s.Ws.set (w-1).toNat (zi s w x).2).flatMap (zY {(zi s w x).1 with Ws:=s.Ws.set (w-1).toNat (zi s w x).2})=(a++(zi s w x).2::b).flatMap (zY (zi s w x).1):=by
   rw [es];exact wq (fun y _=>zbk rfl rfl)
  have q3:(a++b).flatMap (zY (zi s w x).1)=(a++b).flatMap (zY s):=wq (fun y hy=>by
   obtain ⟨j,hj,hjy⟩:=hab y hy;exact (hoth j y hj hjy).2)
  have q4:(zi s w x).1.Ms.flatMap (yh {(zi s w x).1 with Ws:=s.Ws.set (w-1).toNat (zi s w x).2})=s.Ms.flatMap (yh s):=by
   rw [eMs];refine wq (fun y hy=>?_);obtain ⟨j,hj⟩:=zCm.1 hy;exact (zeq (s:=(zi s w x).1) rfl).trans (hmut j y hj).2
  show zC6 (yK p (zi s w x).1 gh'++((s.Ws.set (w-1).toNat (zi s w x).2).flatMap (zY {(zi s w x).1 with Ws:=s.Ws.set (w-1).toNat (zi s w x).2})++(zi s w x).1.Ms.flatMap (yh {(zi s w x).1 with Ws:=s.Ws.set (w-1).toNat (zi s w x).2}))++C) _;rw [q2,q4];have r1:zC6 (yK p (zi s w x).1 gh'++((a++(zi s w x).2::b).flatMap (zY (zi s w x).1)++s.Ms.flatMap (yh s))++C) (((a++b).flatMap (zY s)++s.Ms.flatMap (yh s))++(yK p (zi s w x).1 gh'++zY (zi s w x).1 (zi s w x).2++C)):=by
   refine ((zBA _ (zCR _ uS)).append_right C).trans ?_;rw [q3];generalize (a++b).flatMap (zY s)=u;generalize s.Ms.flatMap (yh s)=v;generalize yK p (zi s w x).1 gh'=y;generalize zY (zi s w x).1 (zi s w x).2=z;have:zC6 (y++(z++(u++v))++C) ((u++v)++(y++z++C)):=by
    generalize u++v=q;rw [zBu,zBu,zBu];refine (zBA _ (zBO _ _ _)).trans ?_;exact (zBO _ _ _)
   rw [zBu z u v];exact this
  have r2:zC6 (N++(yK p s gh++(s.Ws.flatMap (zY s)++s.Ms.flatMap (yh s)))) (((a++b).flatMap (zY s)++s.Ms.flatMap (yh s))++(N++(yK p s gh++zY s x))):=by
   conv=>lhs;rw [el]
   refine (zBA _ (zBA _ (zCR _ uS))).trans ?_;generalize (a++b).flatMap (zY s)=u;generalize s.Ms.flatMap (yh s)=v;generalize yK p s gh=y;generalize zY s x=z;rw [zBu z u v];generalize u++v=q;refine (zBA _ ?_).trans (zBO _ _ _);rw [<-zBu];exact zB5
  exact r1.trans ((zBA _ hN).trans r2.symm)
 have hFM:X6 s {(zi s w x).1 with Ws:=s.Ws.set (w-1).toNat (zi s w x).2}/\U9 (Zf p {(zi s w x).1 with Ws:=s.Ws.set (w-1).toNat (zi s w x).2} gh') (zi s w x).1.T:=by
  rcases hT with ⟨e1,e2,t1⟩ | ⟨e1,e2,t1,t2,t3⟩ | ⟨e1,e2,t1,t2⟩
  .rw [e1,e2,zBo,zBy] at hbag;refine ⟨.inl ⟨t1,congrArg (fun h:zC=>h.Objs.length) eH⟩,⟨?_,hbag.nodup_iff.2 G.B.nd,fun o=>?_⟩⟩
   .rw [t1];exact G.B.blk
   .rw [t1,hbag.mem_iff];exact G.B.gr o
  .have ho:=((hWX.p6 t1).1).ob;rw [e1,e2,zBo] at hbag;refine ⟨.inr (.inl ⟨x.G.Obj,⟨ho.1,G.wob _ x hx t1⟩,(Um ho).1 t2,t3,eH⟩),?_⟩;rw [t3];exact G.B.more ho t2 hbag
  .rw [e1,e2,zBy] at hbag;obtain ⟨b1,b2,b3,b4⟩:=G.B.less hbag;refine ⟨.inr (.inr (.inl ⟨x.Obj,b3,?_,eH⟩)),by rw [t2];exact b1⟩;show (zi s w x).1.T=_;rw [t2];unfold xP;rw [zb b3]
 obtain ⟨hFM,hB⟩:=hFM;obtain ⟨t1,t2⟩:=G.tints hFM;refine ⟨gh',⟨hE,?_,fun j y hy=>?_,fun j y hy=>?_,hB,t1,fun j y hy h6=>?_,fun y hy=>?_,t2,fun y hy=>show xt (zi s w x).1 y≠[] from FX.ne X0 Fx G.ne y hy⟩,hFM,x,rfl,N,C,hbag,hT⟩
 .refine (X'.state hE.S rfl).perm ?_;show zC6 ((s.Ws.set (w-1).toNat (zi s w x).2).flatMap wj++(zi s w x).1.Ms.flatMap ub) _;rw [es,eMs,<-zBu];exact zCR _ uS
 .have hy:(s.Ws.set (w-1).toNat (zi s w x).2)[j]? =some y:=hy;by_cases hj:j=(w-1).toNat
  .subst hj;rw [zB3 hi] at hy;injection hy with hy;rw [<-hy,ei];exact W'.state rfl rfl
  .rw [zBI (fun e=>hj e.symm)] at hy;exact (hoth j y hj hy).1.state rfl rfl
 .have hy:(zi s w x).1.Ms[j]? =some y:=hy;rw [eMs] at hy;exact (hmut j y hy).1.state rfl rfl
 .have hy:(s.Ws.set (w-1).toNat (zi s w x).2)[j]? =some y:=hy;show y.G.Obj<=((zi s w x).1.H.Objs.length:Int);rw [eH];by_cases hj:j=(w-1).toNat
  .subst hj;rw [zB3 hi] at hy;injection hy with hy;rw [<-hy] at h6 ⊢;rcases zkl s w x h6 with ⟨h,e⟩ | ⟨h,e⟩
   .rw [e];exact G.wob _ x hx h
   .rw [e];exact zsi (by omega) (fun l hl v hv=>((G.E.H.objs l hl).2 v hv).2) _ _
  .rw [zBI (fun e=>hj e.symm)] at hy;exact G.wob j y hy h6
 .have hy:y∈(zi s w x).1.Ms:=hy;show zcv ((zi s w x).1.H.Objs.length:Int) y;rw [eMs] at hy;rw [eH];exact G.buf y hy
theorem znm (s:za) (m:Int) (x:zg):(zq s m x).1.H=s.H\/x.PC=23\/x.PC=30:=by
 refine xV (motive:=fun r=>r.1.H=s.H\/x.PC=23\/x.PC=30) s m x ?_ ?_ ?_ ?_ ?_ ?_ ?_ ?_ ?_ ?_ ?_ ?_ ?_ ?_ ?_ ?_ ?_ ?_ ?_ ?_
 all_goals first
  | exact fun _=>.inl rfl
  | exact fun c=>.inr (.inl c)
  | exact fun c=>.inr (.inr c)
  | (intro c;unfold mu3;exact .inl (by dsimp only;rw [uJ]))
  | (intro c;unfold UY;exact .inl (by dsimp only;rw [uJ]))
  | exact .inl rfl
theorem zhx {t:zA}{n:Int}(hn:1<=n/\n<=64) (nm: ¬zP t.Marks n=true) (nb': ¬zP t.Black n=true):X3 t n=⟨t.Marks|||bit n,t.Black|||bit n⟩:=by
 have ht1:yT {t with Marks:=t.Marks|||bit n} n=1:=(vu _ _).2 ⟨(wg _ hn _).2 (.inr rfl),nb'⟩;unfold X3;rw [zru hn nm nb'];dsimp only;rw [zb rfl];unfold xP;rw [zb ht1]
theorem U9.fresh {B B':List Int}{t:zA}{n:Int}(hn:1<=n/\n<=64) (nm: ¬zP t.Marks n=true) (K:U9 B t) (h:zC6 B' B):U9 B' ⟨t.Marks|||bit n,t.Black|||bit n⟩:=by
 refine ⟨fun o ho=>?_,h.nodup_iff.2 K.nd,fun o=>?_⟩
 .rcases (wg _ hn o).1 ho with h | h
  .exact (wg _ hn o).2 (.inl (K.blk o h))
  .exact (wg _ hn o).2 (.inr h)
 .rw [h.mem_iff,K.gr,vu,vu];dsimp only;rw [wg _ hn,wg _ hn];constructor
  .rintro ⟨a1,a2⟩;refine ⟨.inl a1,fun e=>e.elim a2 (fun e=>?_)⟩;rw [e] at a1;exact nm a1
  .rintro ⟨a1,a2⟩;exact ⟨a1.resolve_right (fun e=>a2 (.inr e)),fun e=>a2 (.inl e)⟩
theorem FG.mut_tint {p:zc}(hp:zB p) {nb k:Nat}{s:za}{gh:Gh}(G:FG p nb k s gh) {m:Int}{x:zg}(hMX:MX p s gh x) (hBI:zcv (s.H.Objs.length:Int) x) {l:List zg}{N C B':List Int}
  (hbag:zC6 (B'++C) (N++Zf p s gh))
  (hT:(N=[]/\C=[]/\(zq s m x).1.T=s.T)\/(N=[x.G.Obj]/\C=[]/\(x.PC=3\/x.PC=37)/\¬(s.T.Marks|||bit x.G.Obj=s.T.Marks)/\(zq s m x).1.T={s.T with Marks:=s.T.Marks|||bit x.G.Obj})\/(N=[]/\C=[x.Obj]/\x.PC=38/\(zq s m x).1.T=xP s.T x.Obj) \/
   (N=[]/\C=[]/\x.PC=30/\W3 s.H s.P.Most=true/\(zq s m x).1.H=wK s.H/\(zq s m x).1.T=X3 s.T (wc (s.H.Objs.length+1)))) :
  X6 s {(zq s m x).1 with Ms:=l}/\U9 B' (zq s m x).1.T:=by
 have hN0:=G.E.H.n;have hM0:=hp.most;have hn6:=hp.n;have nm: ¬zP s.T.Marks ((s.H.Objs.length:Int)+1)=true:=fun e=>by have:=G.mrk _ e;omega
 have nb': ¬zP s.T.Black ((s.H.Objs.length:Int)+1)=true:=fun e=>nm (G.B.blk _ e);have hw:wc ((s.H.Objs.length:Int)+1)=(s.H.Objs.length:Int)+1:=yP;rcases hT with ⟨e1,e2,t1⟩ | ⟨e1,e2,t1,t2,t3⟩ | ⟨e1,e2,t1,t2⟩ | ⟨e1,e2,t1,t2,t3,t4⟩
 .rw [e1,e2,zBo,zBy] at hbag;refine ⟨.inl ⟨t1,?_⟩,⟨?_,hbag.nodup_iff.2 G.B.nd,fun o=>?_⟩⟩
  .show (zq s m x).1.H.Objs.length=_;rcases znT s m x with h | ⟨h1,h2,_,_,h5⟩
   .exact h.1
   .exfalso;rw [t1,hw,zhx (by omega) nm nb'] at h2;have h3:=congrArg zA.Marks h2;exact nm (by rw [h3];exact (wg _ (by omega) _).2 (.inr rfl))
  .rw [t1];exact G.B.blk
  .rw [t1,hbag.mem_iff];exact G.B.gr o
 .have ho:1<=x.G.Obj/\x.G.Obj<=64:=by
   rcases t1 with h | h
   .exact (hMX.p3 h).1.ob
   .exact (hMX.p37 h).1.ob
  rw [e1,e2,zBo] at hbag;have eH:(zq s m x).1.H=s.H:=by
   rcases znm s m x with h | h | h
   .exact h
   .omega
   .omega
  refine ⟨.inr (.inl ⟨x.G.Obj,⟨ho.1,hBI.2.2 t1⟩,(Um ho).1 t2,t3,eH⟩),?_⟩;rw [t3];exact G.B.more ho t2 hbag
 .rw [e1,e2,zBy] at hbag;obtain ⟨b1,b2,b3,b4⟩:=G.B.less hbag;have eH:(zq s m x).1.H=s.H:=by
   rcases znm s m x with h | h | h
   .exact h
   .omega
   .omega
  refine ⟨.inr (.inr (.inl ⟨x.Obj,b3,?_,eH⟩)),by rw [t2];exact b1⟩;show (zq s m x).1.T=_;rw [t2];unfold xP;rw [zb b3]
 .rw [e1,e2,zBo,zBy] at hbag;have hr:(s.H.Objs.length:Int)<s.P.Most:=by
   unfold W3 at t2;simp only [zBl,decide_eq_true_eq] at t2;exact t2.1
  rw [G.E.S.P] at hr;have hTT:(zq s m x).1.T=⟨s.T.Marks|||bit ((s.H.Objs.length:Int)+1),s.T.Black|||bit ((s.H.Objs.length:Int)+1)⟩:=by
   rw [t4,hw,zhx (by omega) nm nb']
  refine ⟨.inr (.inr (.inr ⟨t3,by omega,hTT⟩)),?_⟩;rw [hTT];exact G.B.fresh (by omega) nm hbag
theorem FG.mutator {p:zc}(hp:zB p) {nb k:Nat}{s:za}{gh:Gh}(hk:k<4294960000) (G:FG p nb k s gh) {m:Int}(hm:1<=m/\m<=p.Mutators) (hd:s.Done=false):∃gh',FG p nb (k+1) (zS s m) gh'/\X6 s (zS s m) /\
  ∃x,s.Ms[(m-1).toNat]? =some x/\∃N C,zC6 (Zf p (zS s m) gh'++C) (N++Zf p s gh)/\((N=[]/\C=[]/\(zq s m x).1.T=s.T)\/(N=[x.G.Obj]/\C=[]/\(x.PC=3\/x.PC=37)/\¬(s.T.Marks|||bit x.G.Obj=s.T.Marks)/\(zq s m x).1.T={s.T with Marks:=s.T.Marks|||bit x.G.Obj})\/(N=[]/\C=[x.Obj]/\x.PC=38/\(zq s m x).1.T=xP s.T x.Obj) \/
   (N=[]/\C=[]/\x.PC=30/\W3 s.H s.P.Most=true/\(zq s m x).1.H=wK s.H/\(zq s m x).1.T=X3 s.T (wc (s.H.Objs.length+1)))):=by
 have hE:=zwf hp G.E m;have hml:=G.E.ml;have hwl:=G.E.wl;have hN0:=G.E.H.n;have hM0:=hp.most;have hn6:=hp.n;have e0: ¬(s.Done=true\/m<1\/(s.Ms.length:Int)<m):=by rw [hd];rintro (e | e | e)<;>first | cases e | omega
 revert hE;unfold zS;rw [zd e0];have hi:(m-1).toNat<s.Ms.length:=by omega
 have hx:=zBn hi;generalize s.Ms[(m-1).toNat]=x at hx;rw [hx];dsimp only;intro hE;obtain ⟨a,b,el,es,hab,hba⟩:=zhc hx;have ei:(((m-1).toNat:Nat):Int)+1=m:=by omega
 have hMX:=G.M _ x hx;have hXO:=G.E.X _ x hx;rw [ei] at hXO;have hBI:=G.buf x (zBq hx);have hfr:=zio s m x;have eWs:(zq s m x).1.Ws=s.Ws:=by rw [hfr]
 have X0:SX p nb s gh (ub x++((a++b).flatMap ub++s.Ws.flatMap wj)) k:=by
  refine G.X.perm ?_;rw [<-zBu];refine List.Perm.trans (zCR _ ?_) zB5
  conv=>rhs;rw [el]
  exact uS.symm
 obtain ⟨gh',X',M',Fx,N,C,hN,hT⟩:=zAJ hp hk X0 hXO hMX (zpH hp m) (fun o i=>G.E.H.get hp o i);have hoth:∀(j:Nat) y,j≠(m-1).toNat->s.Ms[j]? =some y->MX p (zq s m x).1 gh' y/\yh (zq s m x).1 y=yh s y:=by
  intro j y hj hy;exact MX.other hp X0 Fx (G.M j y hy) (G.E.X j y hy) (fun z hz=>zBH _ (zCc.2 ⟨y,hba j y hj hy,hz⟩))
 have hwrk:∀(j:Nat) y,s.Ws[j]? =some y->WX p (zq s m x).1 gh' ((j:Int)+1) y/\zY (zq s m x).1 y=zY s y:=by
  intro j y hy;have hjl:=(zBt.1 hy).1;exact WX.other hp (w:=(j:Int)+1) (by omega) X0 Fx (G.W j y hy) (G.E.W j y hy) (fun z hz=>zBJ _ (zCc.2 ⟨y,zBq hy,hz⟩)) (fun e=>e)
 have hbag:zC6 (Zf p {(zq s m x).1 with Ms:=s.Ms.set (m-1).toNat (zq s m x).2} gh'++C) (N++Zf p s gh):=by
  unfold Zf;have q2:(s.Ms.set (m-1).toNat (zq s m x).2).flatMap (yh {(zq s m x).1 with Ms:=s.Ms.set (m-1).toNat (zq s m x).2})=(a++(zq s m x).2::b).flatMap (yh (zq s m x).1):=by
   rw [es];exact wq (fun y _=>zeq rfl)
  have q3:(a++b).flatMap (yh (zq s m x).1)=(a++b).flatMap (yh s):=wq (fun y hy=>by
   obtain ⟨j,hj,hjy⟩:=hab y hy;exact (hoth j y hj hjy).2)
  have q4:(zq s m x).1.Ws.flatMap (zY {(zq s m x).1 with Ms:=s.Ms.set (m-1).toNat (zq s m x).2})=s.Ws.flatMap (zY s):=by
   rw [eWs];refine wq (fun y hy=>?_);obtain ⟨j,hj⟩:=zCm.1 hy;exact (zbk (s:=(zq s m x).1) rfl rfl).trans (hwrk j y hj).2
  show zC6 (yK p (zq s m x).1 gh'++((zq s m x).1.Ws.flatMap (zY {(zq s m x).1 with Ms:=s.Ms.set (m-1).toNat (zq s m x).2})++(s.Ms.set (m-1).toNat (zq s m x).2).flatMap (yh {(zq s m x).1 with Ms:=s.Ms.set (m-1).toNat (zq s m x).2}))++C) _;rw [q2,q4];have r1:zC6 (yK p (zq s m x).1 gh'++(s.Ws.flatMap (zY s)++(a++(zq s m x).2::b).flatMap (yh (zq s m x).1))++C) ((s.Ws.flatMap (zY s)++(a++b).flatMap (yh s))++(yK p (zq s m x).1 gh'++yh (zq s m x).1 (zq s m x).2++C)):=by
   refine ((zBA _ (zBA _ uS)).append_right C).trans ?_;rw [q3];generalize (a++b).flatMap (yh s)=u;generalize s.Ws.flatMap (zY s)=v;generalize yK p (zq s m x).1 gh'=y;generalize yh (zq s m x).1 (zq s m x).2=z;refine ((zBA y (zBO v z u)).append_right C).trans ?_;generalize v++u=q;rw [zBu,zBu,zBu];refine (zBA _ (zBO _ _ _)).trans ?_;exact (zBO _ _ _)
  have r2:zC6 (N++(yK p s gh++(s.Ws.flatMap (zY s)++s.Ms.flatMap (yh s)))) ((s.Ws.flatMap (zY s)++(a++b).flatMap (yh s))++(N++(yK p s gh++yh s x))):=by
   conv=>lhs;rw [el]
   refine (zBA _ (zBA _ (zBA _ uS))).trans ?_;generalize (a++b).flatMap (yh s)=u;generalize s.Ws.flatMap (zY s)=v;generalize yK p s gh=y;generalize yh s x=z;refine (zBA N (zBA y (zBO v z u))).trans ?_;generalize v++u=q;refine (zBA _ ?_).trans (zBO _ _ _);rw [<-zBu];exact zB5
  exact r1.trans ((zBA _ hN).trans r2.symm)
 have hlen:(zq s m x).1.H.Objs.length=s.H.Objs.length\/(zq s m x).1.H=wK s.H:=by
  rcases znT s m x with h | h
  .exact .inl h.1
  .exact .inr h.1
 have hFM:=G.mut_tint hp (m:=m) (l:=s.Ms.set (m-1).toNat (zq s m x).2) hMX hBI hbag hT;obtain ⟨hFM,hB⟩:=hFM;obtain ⟨t1,t2⟩:=G.tints hFM;have hN1:(s.H.Objs.length:Int)<=((zq s m x).1.H.Objs.length:Int):=by
  rcases hlen with h | h
  .omega
  .rw [h,VX];omega
 have B':=zq0 (s:=s) hXO (n:=(s.H.Objs.length:Int)) (by omega) (fun l hl v hv=>((G.E.H.objs l hl).2 v hv).2) hBI;refine ⟨gh',⟨hE,?_,fun j y hy=>?_,fun j y hy=>?_,hB,t1,fun j y hy h6=>?_,fun y hy=>?_,t2,fun y hy=>show xt (zq s m x).1 y≠[] from FX.ne X0 Fx G.ne y hy⟩,hFM,x,rfl,N,C,hbag,hT⟩
 .refine (X'.state hE.S rfl).perm ?_;show zC6 ((zq s m x).1.Ws.flatMap wj++(s.Ms.set (m-1).toNat (zq s m x).2).flatMap ub) _;rw [es,eWs,<-zBu];exact zB5.trans (zCR _ uS)
 .have hy:(zq s m x).1.Ws[j]? =some y:=hy;rw [eWs] at hy;exact (hwrk j y hy).1.state rfl rfl
 .have hy:(s.Ms.set (m-1).toNat (zq s m x).2)[j]? =some y:=hy;by_cases hj:j=(m-1).toNat
  .subst hj;rw [zB3 hi] at hy;injection hy with hy;rw [<-hy];exact M'.state rfl rfl
  .rw [zBI (fun e=>hj e.symm)] at hy;exact (hoth j y hj hy).1.state rfl rfl
 .have hy:(zq s m x).1.Ws[j]? =some y:=hy;rw [eWs] at hy;have:=G.wob j y hy h6;show y.G.Obj<=((zq s m x).1.H.Objs.length:Int);omega
 .have up:∀ {z:zg},zcv (s.H.Objs.length:Int) z->zcv ((zq s m x).1.H.Objs.length:Int) z:=fun ⟨a,b,c⟩=>⟨fun v hv=>by have:=a v hv;omega,by omega,fun e=>by have:=c e;omega⟩
  rcases zBX (show y∈s.Ms.set (m-1).toNat (zq s m x).2 from hy) with h | rfl
  .exact up (G.buf y h)
  .exact up B'
theorem zwP {p:zc}(h:zB p):FG p (z7 p+1) 0 (yW p) (gh0 p):=by
 have G:=zwJ h;have hn:=h.n;have hms:∀x∈(yW p).Ms,∃r,x=ve r:=fun x hx=>by
  obtain ⟨r,_,e⟩:=zBB.1 (show x∈p.Regs.map ve from hx);exact ⟨r,e.symm⟩
 have own:(yW p).Ms.flatMap ub=[]:=zaC (fun x hx=>by
  obtain ⟨r,rfl⟩:=hms x hx;exact uf ⟨by show (0:Int)≠3;decide,by show (0:Int)≠33;decide,by show (0:Int)≠34;decide,by show (0:Int)≠37;decide⟩)
 have hold:(yW p).Ms.flatMap (yh (yW p))=[]:=zaC (fun x hx=>by
  obtain ⟨r,rfl⟩:=hms x hx;unfold yh;rw [uN ⟨by show (0:Int)≠3;decide,by show (0:Int)≠33;decide,by show (0:Int)≠36;decide,by show (0:Int)≠37;decide,by show (0:Int)≠38;decide⟩];rfl)
 refine ⟨G.E,by rw [own,zBo];exact G.X,G.W,fun i x hx=>?_,?_,fun o ho=>?_,fun i x hx h6=>?_,fun x hx=>?_,fun o h1 h2=>?_,zAz h⟩
 .obtain ⟨r,rfl⟩:=hms x (zBq hx);exact MX.plain ⟨by show (0:Int)≠3;decide,by show (0:Int)≠32;decide,by show (0:Int)≠34;decide,by show (0:Int)≠37;decide⟩ (fun _=>rfl) (fun v hv=>by cases hv)
   ⟨fun e=>zk e (by show ¬(0:Int)=21;decide),fun e=>zk e (by show ¬((0:Int)=22\/(((0:Int)=1\/(0:Int)=3)/\(0:Int)=22));decide)⟩
 .have e:Zf p (yW p) (gh0 p)=zkB p (yW p) (gh0 p):=by unfold Zf zkB;rw [hold,zBo]
  rw [e];exact G.B
 .have ho:zP (wN p) o=true:=ho;show o<=(p.H.Objs.length:Int);refine Int.not_lt.1 fun hlt=>?_;obtain ⟨a,b,_⟩:=(wm _ _).1 ho;have b2: ¬zP (wR (p.H.Objs.length:Int)) o=true:=fun e=>by
   have:=(Uk (n:=p.H.Objs.length) (by omega) o).1 e;omega
  have b3:=(Zp _ _ o).2 ⟨ho,(znR _ (by omega)).2 b2⟩;rw [zeo h] at b3;exact XB o b3
 .obtain ⟨j,_,e⟩:=zBB.1 (show x∈(zC5 p.Workers.toNat).map (wY p) from zBq hx);rw [<-e] at h6;exact zk h6 (by show ¬(0:Int)=6;decide)
 .obtain ⟨r,rfl⟩:=hms x hx;exact ⟨fun v hv=>(by cases hv),(by show (0:Int)<=(p.H.Objs.length:Int);omega),fun e=>zk e (by show ¬((0:Int)=3\/(0:Int)=37);decide)⟩
 .have:o<=(p.H.Objs.length:Int):=h2;omega
theorem FG.grey {p:zc}{nb k:Nat}{s:za}{gh:Gh}(G:FG p nb k s gh) {o:Int}(h:o∈Zf p s gh):yT s.T o=1:=(G.B.gr o).1 h
theorem zc4 {p:zc}{s:za}{gh:Gh}{i:Nat}{x:zh}(hx:s.Ws[i]? =some x) {o:Int}(h:o∈zY s x):o∈Zf p s gh :=
 zBJ _ (zBH _ (zCc.2 ⟨x,zBq hx,h⟩))
theorem zlM {p:zc}{s:za}{gh:Gh}{i:Nat}{x:zg}(hx:s.Ms[i]? =some x) {o:Int}(h:o∈yh s x):o∈Zf p s gh :=
 zBJ _ (zBJ _ (zCc.2 ⟨x,zBq hx,h⟩))
theorem znp:∀(n:Nat) (l:List Int),l.Nodup->(∀o∈l,1<=o/\o<=(n:Int))->l.length<=n
 | 0,[],_,_=>zBm _
 | 0,a::l,_,h=>by have:=h a (by simp);omega
 | n+1,l,hd,h=>by
  have ih:=znp n (l.erase ((n+1:Nat):Int)) (hd.erase _) (fun o ho=>by
   have:=(hd.mem_erase_iff).1 ho;have h2:=h o this.2;have h3:=this.1;omega)
  rw [List.length_erase] at ih;split at ih<;>omega
theorem zu2 {α β:Type}{f:α->List β}:∀(l:List α),(∀x∈l,f x≠[])->l.length<=(l.flatMap f).length
 | [],_=>Nat.zero_le _
 | a::l,h=>by
  rw [zCa,zBz,zBv];have h1:=List.length_pos_iff.2 (h a (by simp));have h2:=zu2 l (fun x hx=>h x (zBr _ hx));omega
def uK (m:List (BitVec 64)) (c:zJ):Nat:=if c.PC=0 then 3 else if ld m c.Head=c.H then (3-c.PC).toNat else (6-c.PC).toNat
theorem zsn {m:List (BitVec 64)}{c:zJ}(h:0<=c.PC/\c.PC<=2):1<=uK m c:=by
 unfold uK;split
 .omega
 split<;>omega
theorem zfZ {m:List (BitVec 64)}{c:zJ}(ho:c.Out=0) (hpc:0<=c.PC/\c.PC<=2) (hk:c.Kind=1\/c.Kind=2) (hh:0<=c.Head/\c.Head<m.length) (hn:c.Kind=1->wc (c.Next+c.X)≠c.Head) :
  (zo m c).2.Out≠0\/uK (zo m c).1 (zo m c).2<uK m c:=by
 unfold zo;rw [ze];by_cases c0:c.PC=0
 .rw [zb c0];split
  .exact .inl (by show (2:Int)≠0;decide)
  .right;unfold uK;dsimp only;rw [zd (by decide),zb rfl,zb c0];decide
 rw [zd c0];by_cases c1:c.PC=1
 .rw [zb c1];right;split
  .unfold uK;dsimp only;rw [zd (by decide),zd c0,c1];split<;>decide
  .rename_i h2;unfold uK;dsimp only;rw [zd (by decide),zd c0,c1,yE (hn (by omega))];split<;>decide
 rw [zd c1];have c2:c.PC=2:=by omega
 dsimp only;by_cases e:ld m c.Head=c.H
 .have hsw:(sw m c.Head c.H (xz ((c.H >>> 32)+1#64) (if c.Kind=2 then c.Y else c.X))).2=true:=by unfold sw;rw [zb ⟨hh.1,hh.2,e⟩]
  rw [hsw,zb rfl];left;split<;>(show (1:Int)≠0;decide)
 .have hsw:sw m c.Head c.H (xz ((c.H >>> 32)+1#64) (if c.Kind=2 then c.Y else c.X))=(m,false):=by unfold sw;rw [zd (fun x=>e x.2.2)]
  rw [hsw];right;rw [zd (show ¬((m,false):List (BitVec 64)×Bool).2=true from Bool.false_ne_true)];unfold uK;dsimp only;rw [zb rfl,zd c0,zd e,c2];decide
def Z4 (m:List (BitVec 64)) (g:zH):Nat :=
 if g.PC=7 then uK m g.C else if g.PC=6 then 4 else if g.PC=5 then 4+uK m g.C else if g.PC=4 then 8 else if g.PC=3 then 7+(4-g.D.PC).toNat else if g.PC=2 then 1 else if g.PC=1 then 12 else 13
theorem zjE (m:List (BitVec 64)) {c:zJ}(h:0<=c.PC):uK m c<=5:=by
 unfold uK;split
 .omega
 split<;>omega
theorem znl (p:zc) (m:List (BitVec 64)) (g:zH):Z4 m (zcC p g)=7:=by
 unfold Z4 zcC uK;dsimp only;simp
theorem zvM {m:List (BitVec 64)}{d:zm}(ho:d.Out=0) (hpc:0<=d.PC/\d.PC<=3):(yV m d).2.PC=d.PC+1:=by
 unfold yV;rw [ze];split
 .show (1:Int)=_;omega
 split
 .split<;>(show (2:Int)=_;omega)
 split
 .show (3:Int)=_;omega
 .show (4:Int)=_;omega
theorem zxK {p:zc}(hp:zB p) {nb k:Nat}{s:za}{g:zH}{gh:Gh}{own:List Int}(X:SX p nb s gh own k) (G:GX p s gh g) (M:MOk p nb g) (h0:g.Out=0) (hE:g.PC=5->(zo s.M g.C).2.Out≠2) :
  (zx s g).2.Out≠0\/Z4 (zx s g).1.M (zx s g).2<Z4 s.M g:=by
 have hF:=vi hp;have hEm:=xB hp;have hlen:=X.L.len;have hpc:=G.pc;have hmd:=G.md;have hnb:=X.S.nbk;unfold zx;rw [ze];by_cases p7:g.PC=7
 .rw [zb p7];obtain ⟨c1,c2,c3,c4,c5⟩:=G.c7 p7 h0;obtain ⟨m1,m2,m3,m4,m5⟩:=M.c7 p7;have r:=zfZ (m:=s.M) c1 c2 (.inl m1) (by omega) (fun _=>by rw [m3,yP];omega);unfold Uf;dsimp only;split
  .exact .inl (by show (1:Int)≠0;decide)
  .rename_i e;have hout:=WN s.M c1 c2 (.inl m1);right;unfold Z4;dsimp only;rw [zb p7,zb p7];rcases r with r | r
   .omega
   .exact r
 rw [zd p7];by_cases p6:g.PC=6
 .rw [zb p6];right;unfold zmt Z4 uK;dsimp only;rw [zb rfl,zb rfl,zd p7,zb p6];decide
 rw [zd p6];by_cases p5:g.PC=5
 .rw [zb p5];obtain ⟨c1,c2,c3⟩:=G.c5 p5 h0;obtain ⟨m1,m2,m3,m4,m5⟩:=M.c5 p5;have r:=zfZ (m:=s.M) c1 c2 (.inr m1) (by omega) (fun e=>by omega);have hpos:=zsn (m:=s.M) c2;have hout:=WN s.M c1 c2 (.inr m1);have he:=hE p5;unfold zeH;dsimp only;right;by_cases e1:(zo s.M g.C).2.Out=1
  .rw [zb e1];unfold Z4;dsimp only;rw [zd (by decide),zb rfl,zd p7,zd p6,zb p5];omega
  .rw [zd e1,zd he];unfold Z4;dsimp only;rw [zd p7,zd p6,zb p5,zd p7,zd p6,zb p5];rcases r with r | r
   .omega
   .omega
 rw [zd p5];by_cases p4:g.PC=4
 .rw [zb p4];right;dsimp only;rw [znl];unfold Z4;rw [zd p7,zd p6,zd p5,zb p4];decide
 rw [zd p4];by_cases p3:g.PC=3
 .rw [zb p3];obtain ⟨c1,c2,c3⟩:=G.d3 p3 h0;have hd:=c3.pc;have hr:=zvM (m:=s.M) c3.out hd;have e0:Z4 s.M g=7+(4-g.D.PC).toNat:=by unfold Z4;rw [zd p7,zd p6,zd p5,zd p4,zb p3]
  rw [e0];unfold zek;dsimp only;split
  .exact .inl (by show (1:Int)≠0;decide)
  right;split
  .rw [znl];omega
  .unfold Z4;dsimp only;rw [zd p7,zd p6,zd p5,zd p4,zb p3,hr];omega
 rw [zd p3];by_cases p2:g.PC=2
 .rw [zb p2];exact .inl (by show (1:Int)≠0;decide)
 rw [zd p2];right;by_cases p1:g.PC=1
 .rw [zb p1];have e0:Z4 s.M g=12:=by unfold Z4;rw [zd p7,zd p6,zd p5,zd p4,zd p3,zd p2,zb p1]
  rw [e0];unfold zeI;dsimp only;split
  .show Z4 s.M {g with PC:=2}<12;unfold Z4;dsimp only;simp
  split
  .show 7+(4-(0:Int)).toNat<12;decide
  split
  .show 8<12;decide
  .rw [znl];decide
 .rw [zd p1];have e0:Z4 s.M g=13:=by unfold Z4;rw [zd p7,zd p6,zd p5,zd p4,zd p3,zd p2,zd p1]
  rw [e0];show 12<13;decide
theorem zkK {α β:Type}{f:α->List β}:∀(l:List α),(∀x∈l,(f x).length<=1)->(l.flatMap f).length<=l.length
 | [],_=>zBm _
 | a::l,h=>by
  rw [zCa,zBz,zBv];have h1:=h a (zBx ..);have h2:=zkK l (fun x hx=>h x (zBr _ hx));omega
theorem zn0 {α β:Type}{f:α->List β}{y:α}(hy0:f y=[]):∀(l:List α),y∈l->(∀x∈l,(f x).length<=1)->(l.flatMap f).length+1<=l.length
 | [],hy,_=>by cases hy
 | a::l,hy,h=>by
  rw [zCa,zBz,zBv];have h1:=h a (zBx ..);have hl:=fun x hx=>h x (zBr a hx);rcases zBG.1 hy with rfl | hy
  .have h2:=zkK l hl;rw [hy0];show 0+_+1<=_;omega
  .have h2:=zn0 hy0 l hy hl;omega
theorem zuX (g:zH):(wi g).length<=1:=by unfold wi;split<;>simp
theorem zsj (x:zg):(ub x).length<=1:=by
 unfold ub;split
 .simp
 split
 .exact zuX _
 .simp
theorem zsQ (x:zh):(wj x).length<=1:=by
 unfold wj;split
 .simp
 split
 .exact zuX _
 .simp
theorem FG.empty {p:zc}(hp:zB p) {k:Nat}{s:za}{gh:Gh}(G:FG p (z7 p+1) k s gh) (h:(∃x∈s.Ws,wj x=[])\/(∃x∈s.Ms,ub x=[])):gh.E≠[]:=by
 have hb:=zbX hp;have hN:=G.E.H.n;have hwl:=G.E.wl;have hml:=G.E.ml;have hall:=G.X.L.all.length_eq;have hn:(zks (z7 p+1)).length=z7 p:=by unfold zks;simp
 rw [hn] at hall;simp only [zBz] at hall;have hF:=zu2 gh.F G.ne;have hbag:=znp s.H.Objs.length _ G.B.nd (fun o ho=>⟨(Xv ((G.B.gr o).1 ho)).1,G.mrk o ((vu _ _).1 ((G.B.gr o).1 ho)).1⟩);unfold Zf yK at hbag;simp only [zBz] at hbag;have w1:=zkK s.Ws (fun x _=>zsQ x);have m1:=zkK s.Ms (fun x _=>zsj x);intro e;rw [e] at hall;simp only [zB4] at hall;rcases h with ⟨x,hx,e⟩ | ⟨x,hx,e⟩
 .have:=zn0 e s.Ws hx (fun x _=>zsQ x);omega
 .have:=zn0 e s.Ms hx (fun x _=>zsj x);omega
def zg2 (x:zh) (u j:Int):Prop:=(x.PC=5\/x.PC=6\/x.PC=8)->x.Obj=u->x.Slot<=j
def znH (x:zg) (u j:Int):Prop:=(x.PC=36\/x.PC=37\/x.PC=38)->x.Obj=u->x.Slot<=j
def US (s:za) (u j:Int):Prop:=(∀(i:Nat) x,s.Ws[i]? =some x->zg2 x u j)/\(∀(i:Nat) x,s.Ms[i]? =some x->znH x u j)
def zv4 (g:zH) (o:Int):Prop:=g.Out=0/\(g.PC=0\/g.PC=1)/\g.Obj=o
def zie (x:zh) (o:Int):Prop:=x.PC=6/\zv4 x.G o
def zkm (x:zg) (o:Int):Prop:=o∈x.Buf\/((x.PC=22\/((x.PC=1\/x.PC=3)/\x.Ret=22))/\x.Old=o)\/((x.PC=3\/x.PC=37)/\zv4 x.G o)
def zkL (s:za) (o:Int):Prop:=(∃(i:Nat) (x:zh),s.Ws[i]? =some x/\zie x o)\/(∃(i:Nat) (x:zg),s.Ms[i]? =some x/\zkm x o)
inductive zjT (s:za) (W:Int->Int->Prop):Int->Prop
 | pend (o:Int) (h:zkL s o):zjT s W o
 | white (u j o:Int) (hW: ¬W u j) (hj:xj s.H u j=true) (he:zU s.H u j=o) (hu: ¬zP s.T.Marks u=true) (hp:zjT s W u):zjT s W o
 | grey (u j o:Int) (hW: ¬W u j) (hj:xj s.H u j=true) (he:zU s.H u j=o) (hg:yT s.T u=1) (hs:US s u j):zjT s W o
structure zo5 (s s':za) (W W':Int->Int->Prop):Prop where
 mono:∀o,zP s.T.Marks o=true->zP s'.T.Marks o=true
 hp:∀o,zkL s o->zP s'.T.Marks o=true\/zkL s' o
 he:∀u j,¬W u j->xj s.H u j=true->(¬W' u j/\xj s'.H u j=true/\zU s'.H u j=zU s.H u j)\/(zU s.H u j=0\/zP s'.T.Marks (zU s.H u j)=true\/zkL s' (zU s.H u j))
 hg:∀u j,¬W u j->xj s.H u j=true->yT s.T u=1->US s u j->(yT s'.T u=1/\US s' u j)\/(zU s.H u j=0\/zP s'.T.Marks (zU s.H u j)=true\/zkL s' (zU s.H u j))
 hn:∀u j,¬W u j->xj s.H u j=true->¬zP s.T.Marks u=true->zP s'.T.Marks u=true->yT s'.T u=1/\US s' u j
theorem YW {h:zC}{u j:Int}(e:xj h u j=true):(1<=u/\u<=(h.Objs.length:Int))/\0<=j/\j<((zV h u).length:Int):=by
 unfold xj at e;simp only [zBl,decide_eq_true_eq] at e;exact ⟨⟨e.1.1.1,e.1.1.2⟩,e.1.2,e.2⟩
theorem zo5.prot {s s':za}{W W':Int->Int->Prop}(P:zo5 s s' W W') {o:Int}(h:zjT s W o):o≠0->zP s'.T.Marks o=true\/zjT s' W' o:=by
 have cov:∀v:Int,v≠0->(v=0\/zP s'.T.Marks v=true\/zkL s' v)->zP s'.T.Marks v=true\/zjT s' W' v:=by
  rintro v h0 (e | e | e)
  .exact zk e h0
  .exact .inl e
  .exact .inr (.pend v e)
 induction h with
 | pend o h=>exact fun _=>(P.hp o h).imp id (fun h=>.pend o h)
 | white u j o hW hj he hu hp ih =>
  intro h0;subst he;have hu0:u≠0:=by have:=YW hj;omega
  rcases P.he u j hW hj with ⟨a,b,c⟩ | c
  .by_cases hm:zP s'.T.Marks u=true
   .obtain ⟨d,e⟩:=P.hn u j hW hj hu hm;exact .inr (.grey u j _ a b c d e)
   .rcases ih hu0 with h | h
    .exact zk h hm
    .exact .inr (.white u j _ a b c hm h)
  .exact cov _ h0 c
 | grey u j o hW hj he hg hs =>
  intro h0;subst he;rcases P.he u j hW hj with ⟨a,b,c⟩ | c
  .rcases P.hg u j hW hj hg hs with ⟨d,e⟩ | c2
   .exact .inr (.grey u j _ a b c d e)
   .exact cov _ h0 c2
  .exact cov _ h0 c
def zei (n:Int) (x:zh):Prop:=(x.PC=5->0<=x.Slot/\x.Slot<n)/\(x.PC=6->1<=x.Slot/\x.Slot<=n)/\(x.PC=8->x.Slot=n)
def zpv (n:Int) (x:zg):Prop:=(x.PC=36->0<=x.Slot/\x.Slot<n)/\(x.PC=37->1<=x.Slot/\x.Slot<=n)/\(x.PC=38->x.Slot=n)
def zlV (p:zc) (s:za) (W:Int->Int->Prop) (m:Int) (x:zg):Prop :=
 ¬W (uF x (opM p m x).A) (opM p m x).S->((x.PC=21\/x.PC=22\/((x.PC=1\/x.PC=3)/\x.Ret=22))->x.Old=zU s.H (uF x (opM p m x).A) (opM p m x).S) /\
  (x.PC=23->zU s.H (uF x (opM p m x).A) (opM p m x).S=0\/zP s.T.Marks (zU s.H (uF x (opM p m x).A) (opM p m x).S)=true\/zU s.H (uF x (opM p m x).A) (opM p m x).S∈x.Buf)
structure PI (p:zc) (s:za) (W:Int->Int->Prop):Prop where
 lv:∀o,Reach p.H (wN p) o->zP s.T.Marks o=true\/zjT s W o
 sw:∀(i:Nat) x,s.Ws[i]? =some x->zei p.H.Slots x
 sx:∀(i:Nat) x,s.Ms[i]? =some x->zpv p.H.Slots x
 cv:∀(i:Nat) x,s.Ms[i]? =some x->zlV p s W ((i:Int)+1) x
theorem znz {s:za}{g:zH}{o:Int}(hmd:1<=g.Mode/\g.Mode<=3) (ho:1<=o/\o<=64) (hb:zP s.T.Black o=true->zP s.T.Marks o=true) (a:zv4 g o) :
  zv4 (zx s g).2 o\/zP (zx s g).1.T.Marks o=true:=by
 obtain ⟨h1,h2,h3⟩:=a;unfold zx;rw [ze,ze,ze,ze,ze,ze,ze];split
 .right;show zP (vT s.T g.Obj).1.Marks o=true;rw [h3];unfold vT;split
  .rename_i e;exact Decidable.byContradiction fun hc=>((Um ho).2 hc) e
  split
  .exact (wg _ ho o).2 (.inr rfl)
  .rename_i e;exact hb (by unfold zP;simpa using e)
 .left;exact ⟨h1,.inr rfl,h3⟩
theorem zzu {h:zC}{a i v u j:Int}(hne: ¬(u=a/\j=i)) (hi:xj h a i=true->0<=i):xj (Zw h a i v) u j=xj h u j/\zU (Zw h a i v) u j=zU h u j:=by
 have hl:=VP h a i v;by_cases hc:xj h a i=true/\0<=v/\v<=(h.Objs.length:Int)
 .have hs:=YW hc.1;have e0:Zw h a i v={h with Objs:=h.Objs.set (a-1).toNat ((zV h a).set i.toNat v)}:=by unfold Zw;rw [zb hc]
  have es:1<=u->zV (Zw h a i v) u=if u=a then (zV h a).set i.toNat v else zV h u:=fun hu=>by
   rw [e0];unfold zV;rw [zn7 (by omega)];by_cases e:u=a
   .rw [yo,zb e]
   .rw [ze,zd e]
  have eh:xj (Zw h a i v) u j=xj h u j:=by
   unfold xj;rw [hl];by_cases hu:1<=u
   .rw [es hu];by_cases e:u=a
    .rw [zb e,zBF,e]
    .rw [zd e]
   .simp [hu]
  refine ⟨eh,?_⟩;unfold zU;rw [eh];split
  .rename_i hj;have hp:=YW hj;rw [es hp.1.1];by_cases e:u=a
   .rw [zb e,zn7 (by omega),zd (by
     intro e2;exact hne ⟨e,by omega⟩),e]
   .rw [zd e]
  .rfl
 .have e0:Zw h a i v=h:=by unfold Zw;rw [zd hc]
  rw [e0];exact ⟨rfl,rfl⟩
theorem zwS (h:zC) (u j:Int):(xj h u j=true->xj (wK h) u j=true)/\zU (wK h) u j=zU h u j:=by
 have hl:=VX h;have e1:1<=u->u<=(h.Objs.length:Int)->zV (wK h) u=zV h u:=fun h1 h2=>by
  unfold zV wK;rw [zBp,zBp,zBM (by omega)]
 have e2:u=(h.Objs.length:Int)+1->zV (wK h) u=zC3 h.Slots.toNat 0:=fun h1=>by
  unfold zV wK;rw [zBp,zBS (by omega),show (u-1).toNat-h.Objs.length=0 by omega];rfl
 have e3:xj h u j=true->xj (wK h) u j=true:=fun e=>by
  have hs:=YW e;unfold xj;rw [e1 hs.1.1 hs.1.2,hl];simp;omega
 refine ⟨e3,?_⟩;by_cases c:xj h u j=true
 .have hs:=YW c;unfold zU;rw [zb c,zb (e3 c),e1 hs.1.1 hs.1.2]
 .unfold zU;rw [zd c];split
  .rename_i d;have hs:=YW d;by_cases hu:u<=(h.Objs.length:Int)
   .refine zk ?_ c;rw [e1 hs.1.1 hu] at hs;unfold xj;simp;omega
   .rw [e2 (by omega),zBp];cases hx:(zC3 h.Slots.toNat (0:Int))[j.toNat]? with
    | none=>rfl
    | some v=>exact zC0 (zBq hx)
  .rfl
theorem zw4 (s:za) (m:Int) (x:zg):((zq s m x).1.H=s.H/\x.PC≠23)\/(x.PC=23/\(zq s m x).1.H=Zw s.H (uF x (opM s.P m x).A) (opM s.P m x).S (uF x (opM s.P m x).R)/\(zq s m x).2.Buf=x.Buf)\/(x.PC=30/\(zq s m x).1.H=wK s.H):=by
 by_cases c:x.PC=23
 .have e:zq s m x=zfD s m x:=by
   unfold zq;rw [ze,ze,ze,ze,ze,ze,ze,ze,zb c]
  rw [e];exact .inr (.inl ⟨c,rfl,rfl⟩)
 by_cases d:x.PC=30
 .have e:zq s m x=U0 s m x:=by
   unfold zq;rw [ze,ze,ze,ze,ze,ze,ze,ze,ze,zb d]
  rw [e];unfold U0;split
  .split
   .exact .inr (.inr ⟨d,rfl⟩)
   .exact .inl ⟨rfl,c⟩
  .exact .inl ⟨rfl,c⟩
 .rcases znm s m x with h | h | h
  .exact .inl ⟨h,c⟩
  .exact zk h c
  .exact zk h d
theorem zx0 {p:zc}{nb:Nat}{s:za}{gh:Gh}{m:Int}{x:zg}(K:MX p s gh x) (O:XOk p nb m x) (hb:∀o,zP s.T.Black o=true->zP s.T.Marks o=true) {o:Int}(h:zkm x o):zkm (zq s m x).2 o\/zP (zq s m x).1.T.Marks o=true:=by
 have hrt:=O.ret;have hpc:=O.pc;refine xV (motive:=fun r=>zkm r.2 o\/zP r.1.T.Marks o=true) s m x ?_ ?_ ?_ ?_ ?_ ?_ ?_ ?_ ?_ ?_ ?_ ?_ ?_ ?_ ?_ ?_ ?_ ?_ ?_ ?_
 all_goals try (intro c)
 .-- 0
  rcases h with h | ⟨h,_⟩ | ⟨h,_⟩
  .left;left;unfold mu0 zaj;repeat' split
   all_goals exact h
  .omega
  .omega
 .-- 1
  unfold mu1;dsimp only;split
  .rename_i hl;rcases h with h | ⟨h,e⟩ | ⟨h,_⟩
   .have:x.Buf=[]:=List.length_eq_zero_iff.1 hl;rw [this] at h;cases h
   .left;right;left;exact ⟨.inl (by show x.Ret=22;omega),e⟩
   .omega
  .rename_i hl;rcases h with h | ⟨h,e⟩ | ⟨h,_⟩
   .obtain ⟨i,hi⟩:=zCm.1 h;have hil:=(zBt.1 hi).1;by_cases hlast:i=x.Buf.length-1
    .left;right;right;refine ⟨.inl rfl,rfl,.inl rfl,?_⟩;show x.Buf.getD (x.Buf.length-1) 0=o;rw [zBp,<-hlast,hi];rfl
    .left;left;show o∈x.Buf.take (x.Buf.length-1);exact zBq (i:=i) (by rw [List.getElem?_take_of_lt (by omega)];exact hi)
   .left;right;left;exact ⟨.inr ⟨.inr rfl,by show x.Ret=22;omega⟩,e⟩
   .omega
 .rcases h with h | ⟨h,_⟩ | ⟨h,_⟩
  .left;left;exact h
  .omega
  .omega
 .-- 3
  obtain ⟨G,gm,g0⟩:=K.p3 c;unfold mu3;dsimp only;rcases h with h | ⟨h,e⟩ | ⟨_,h⟩
  .left;left;split<;>exact h
  .left;right;left;split
   .exact ⟨.inr ⟨.inl rfl,by show x.Ret=22;omega⟩,e⟩
   .exact ⟨.inr ⟨.inr c,by show x.Ret=22;omega⟩,e⟩
  .rcases znz G.md (h.2.2▸G.ob) (hb o) h with h' | h'
   .left;right;right;rw [zd (by have:=h'.1;omega)];exact ⟨.inl c,h'⟩
   .exact .inr h'
 .rcases h with h | ⟨h,_⟩ | ⟨h,_⟩
  .left;left;exact h
  .omega
  .omega
 .rcases h with h | ⟨h,_⟩ | ⟨h,_⟩
  .left;left;unfold zdH;dsimp only;split<;>exact h
  .omega
  .omega
 .rcases h with h | ⟨h,_⟩ | ⟨h,_⟩
  .left;left;unfold zd7;dsimp only;split<;>exact h
  .omega
  .omega
 .-- 22
  unfold zdz;dsimp only;rcases h with h | ⟨h,e⟩ | ⟨h,_⟩
  .left;left;split
   .exact h
   .exact zBH _ h
  .left;split
   .right;left;exact ⟨.inr ⟨.inl rfl,rfl⟩,e⟩
   .left;exact zBJ _ (by rw [e];simp)
  .omega
 .rcases h with h | ⟨h,_⟩ | ⟨h,_⟩
  .left;left;exact h
  .omega
  .omega
 .rcases h with h | ⟨h,_⟩ | ⟨h,_⟩
  .left;left;unfold U0;repeat' split
   all_goals exact h
  .omega
  .omega
 .rcases h with h | ⟨h,_⟩ | ⟨h,_⟩
  .left;left;unfold zea;dsimp only;split<;>exact h
  .omega
  .omega
 .rcases h with h | ⟨h,_⟩ | ⟨h,_⟩
  .left;left;unfold zdD;dsimp only;repeat' split
   all_goals exact h
  .omega
  .omega
 .rcases h with h | ⟨h,_⟩ | ⟨h,_⟩
  .left;left;exact h
  .omega
  .omega
 .rcases h with h | ⟨h,_⟩ | ⟨h,_⟩
  .left;left;unfold zdX;dsimp only;split<;>exact h
  .omega
  .omega
 .rcases h with h | ⟨h,_⟩ | ⟨h,_⟩
  .left;left;unfold zdG;dsimp only;split<;>exact h
  .omega
  .omega
 .rcases h with h | ⟨h,_⟩ | ⟨h,_⟩
  .left;left;unfold zd4;dsimp only;split<;>exact h
  .omega
  .omega
 .-- 37
  obtain ⟨G,gm,g0⟩:=K.p37 c;unfold UY;dsimp only;rcases h with h | ⟨h,e⟩ | ⟨_,h⟩
  .left;left;split<;>exact h
  .omega
  .rcases znz G.md (h.2.2▸G.ob) (hb o) h with h' | h'
   .left;right;right;rw [zd (by have:=h'.1;omega)];exact ⟨.inr c,h'⟩
   .exact .inr h'
 .rcases h with h | ⟨h,_⟩ | ⟨h,_⟩
  .left;left;exact h
  .omega
  .omega
 .rcases h with h | ⟨h,_⟩ | ⟨h,_⟩
  .left;left;exact h
  .omega
  .omega
 .exact .inl h
theorem zw0 {p:zc}{nb:Nat}{s:za}{gh:Gh}(hsl:s.H.Slots=p.H.Slots) (h1:1<=p.H.Slots/\p.H.Slots<=2) {m:Int}{x:zg}(O:XOk p nb m x) (S:zpv p.H.Slots x) :
  zpv p.H.Slots (zq s m x).2/\∀u j,0<=j->znH x u j->znH (zq s m x).2 u j\/zU s.H u j=0\/zkm (zq s m x).2 (zU s.H u j):=by
 have no:∀ {y:zg},y.PC≠36->y.PC≠37->y.PC≠38->zpv p.H.Slots y/\∀u j,0<=j->znH x u j->znH y u j\/zU s.H u j=0\/zkm y (zU s.H u j) :=
  fun a b c=>⟨⟨fun e=>zk e a,fun e=>zk e b,fun e=>zk e c⟩,fun u j _ _=>.inl (fun e=>by omega)⟩
 have on:∀k:Int,(onM s k=36/\k≠p.H.Slots)\/(onM s k=38/\k=p.H.Slots):=fun k=>by
  unfold onM;rw [hsl];split
  .rename_i e;exact .inr ⟨rfl,e⟩
  .rename_i e;exact .inl ⟨rfl,e⟩
 refine xV (motive:=fun r=>zpv p.H.Slots r.2/\∀u j,0<=j->znH x u j->znH r.2 u j\/zU s.H u j=0\/zkm r.2 (zU s.H u j)) s m x ?_ ?_ ?_ ?_ ?_ ?_ ?_ ?_ ?_ ?_ ?_ ?_ ?_ ?_ ?_ ?_ ?_ ?_ ?_ ?_
 all_goals try (intro c)
 .unfold mu0 zaj;repeat' split
  all_goals exact no (by (try dsimp only [setM]);omega) (by (try dsimp only [setM]);omega) (by (try dsimp only [setM]);omega)
 .have:=O.ret (.inl c);unfold mu1;dsimp only;split
  .exact no (by dsimp only;omega) (by dsimp only;omega) (by dsimp only;omega)
  .exact no (by dsimp only;omega) (by dsimp only;omega) (by dsimp only;omega)
 .unfold mu2;exact no (by dsimp only;omega) (by dsimp only;omega) (by dsimp only;omega)
 .unfold mu3;dsimp only;split
  .exact no (by dsimp only;omega) (by dsimp only;omega) (by dsimp only;omega)
  .exact no (by dsimp only;omega) (by dsimp only;omega) (by dsimp only;omega)
 .unfold zg0;exact no (by dsimp only [setM];omega) (by dsimp only [setM];omega) (by dsimp only [setM];omega)
 .unfold zdH;dsimp only;split
  .exact no (by dsimp only [vP];omega) (by dsimp only [vP];omega) (by dsimp only [vP];omega)
  .exact no (by dsimp only;omega) (by dsimp only;omega) (by dsimp only;omega)
 .unfold zd7;dsimp only;split
  .exact no (by dsimp only;omega) (by dsimp only;omega) (by dsimp only;omega)
  .exact no (by dsimp only;omega) (by dsimp only;omega) (by dsimp only;omega)
 .unfold zdz;dsimp only;split
  .exact no (by dsimp only;omega) (by dsimp only;omega) (by dsimp only;omega)
  .exact no (by dsimp only;omega) (by dsimp only;omega) (by dsimp only;omega)
 .unfold zfD;exact no (by dsimp only [vP];omega) (by dsimp only [vP];omega) (by dsimp only [vP];omega)
 .unfold U0;split
  .split
   .exact no (by dsimp only [setM];omega) (by dsimp only [setM];omega) (by dsimp only [setM];omega)
   .exact no (by dsimp only [vP];omega) (by dsimp only [vP];omega) (by dsimp only [vP];omega)
  .exact no (by dsimp only;omega) (by dsimp only;omega) (by dsimp only;omega)
 .unfold zea;dsimp only;split
  .exact no (by dsimp only;omega) (by dsimp only;omega) (by dsimp only;omega)
  .exact no (by dsimp only;omega) (by dsimp only;omega) (by dsimp only;omega)
 .unfold zdD;dsimp only;repeat' split
  all_goals exact no (by dsimp only;omega) (by dsimp only;omega) (by dsimp only;omega)
 .unfold zhw;exact no (by dsimp only;omega) (by dsimp only;omega) (by dsimp only;omega)
 .unfold zdX;dsimp only;split
  .exact no (by dsimp only;omega) (by dsimp only;omega) (by dsimp only;omega)
  .exact no (by dsimp only;omega) (by dsimp only;omega) (by dsimp only;omega)
 .unfold zdG;dsimp only;split
  .exact no (by dsimp only;omega) (by dsimp only;omega) (by dsimp only;omega)
  .exact ⟨⟨fun _=>⟨zB2 _,by show (0:Int)<_;omega⟩,fun e=>zk e (by show ¬(36:Int)=37;decide),fun e=>zk e (by show ¬(36:Int)=38;decide)⟩,fun u j h0 _=>.inl (fun _ _=>h0)⟩
 .-- 36
  have hs:=S.1 c;have w:wc (x.Slot+1)=x.Slot+1:=yP;unfold zd4;dsimp only;rw [w];split
  .rename_i hv;refine ⟨⟨fun e=>?_,fun e=>?_,fun e=>?_⟩,fun u j h0 h=>?_⟩
   .dsimp only at e ⊢;have:=on (x.Slot+1);omega
   .dsimp only at e ⊢;have:=on (x.Slot+1);omega
   .dsimp only at e ⊢;have:=on (x.Slot+1);omega
   .by_cases hu:x.Obj=u
    .have hle:=h (.inl c) hu;by_cases hj:j=x.Slot
     .right;left;rw [<-hu,hj];exact hv
     .left;intro _ _;show x.Slot+1<=j;omega
    .left;intro _ e;exact zk e hu
  .rename_i hv;refine ⟨⟨fun e=>zk e (by show ¬(37:Int)=36;decide),fun _=>⟨by show 1<=x.Slot+1;omega,by show x.Slot+1<=_;omega⟩,fun e=>zk e (by show ¬(37:Int)=38;decide)⟩,fun u j h0 h=>?_⟩;by_cases hu:x.Obj=u
   .have hle:=h (.inl c) hu;by_cases hj:j=x.Slot
    .right;right;right;right;exact ⟨.inr rfl,rfl,.inl rfl,by rw [<-hu,hj];rfl⟩
    .left;intro _ _;show x.Slot+1<=j;omega
   .left;intro _ e;exact zk e hu
 .-- 37
  have hs:=S.2.1 c;unfold UY;dsimp only;split
  .refine ⟨⟨fun e=>?_,fun e=>?_,fun e=>?_⟩,fun u j h0 h=>.inl (fun _ e=>h (.inr (.inl c)) e)⟩
   .dsimp only at e ⊢;have:=on x.Slot;omega
   .dsimp only at e ⊢;have:=on x.Slot;omega
   .dsimp only at e ⊢;have:=on x.Slot;omega
  .exact ⟨⟨fun e=>zk e (by show ¬x.PC=36;omega),fun _=>hs,fun e=>zk e (by show ¬x.PC=38;omega)⟩,fun u j h0 h=>.inl (fun _ e=>h (.inr (.inl c)) e)⟩
 .unfold zfi;exact no (by dsimp only;omega) (by dsimp only;omega) (by dsimp only;omega)
 .unfold zhe;exact no (by dsimp only;omega) (by dsimp only;omega) (by dsimp only;omega)
 .exact ⟨S,fun u j _ h=>.inl h⟩
theorem X6.mono {s s':za}(F:X6 s s') {o:Int}(h:zP s.T.Marks o=true):zP s'.T.Marks o=true:=by
 rcases F with ⟨e,_⟩ | ⟨q,_,_,e,_⟩ | ⟨q,_,e,_⟩ | ⟨_,_,e⟩
 .rw [e];exact h
 .rw [e];exact (vw _ _ _).2 (.inl h)
 .rw [e];exact h
 .rw [e];exact (vw _ _ _).2 (.inl h)
theorem zxL {p:zc}{s:za}(hP:s.P=p) {W:Int->Int->Prop}{m:Int}{x:zg}(K:zlV p s W m x) (mono:∀o,zP s.T.Marks o=true->zP (zq s m x).1.T.Marks o=true) (hr:x.PC=1\/x.PC=3->x.Ret=2\/x.Ret=22) :
  ∀l:List zg,zlV p {(zq s m x).1 with Ms:=l} (fun u j=>W u j\/(x.PC=23/\u=uF x (opM p m x).A/\j=(opM p m x).S)) m (zq s m x).2:=by
 intro l;have no:∀ {t:za}{y:zg},¬(y.PC=21\/y.PC=22\/((y.PC=1\/y.PC=3)/\y.Ret=22))->y.PC≠23->zlV p t (fun u j=>W u j\/(x.PC=23/\u=uF x (opM p m x).A/\j=(opM p m x).S)) m y :=
  fun a b _=>⟨fun e=>zk e a,fun e=>zk e b⟩
 have keep:∀ {t:za}{y:zg},y.IP=x.IP->y.Regs=x.Regs->uF y (opM p m y).A=uF x (opM p m x).A/\(opM p m y).S=(opM p m x).S:=fun e1 e2=>by
  unfold opM uF;rw [e1,e2];exact ⟨rfl,rfl⟩
 revert mono;refine xV (motive:=fun r=>(∀o,zP s.T.Marks o=true->zP r.1.T.Marks o=true)->zlV p {r.1 with Ms:=l} (fun u j=>W u j\/(x.PC=23/\u=uF x (opM p m x).A/\j=(opM p m x).S)) m r.2) s m x ?_ ?_ ?_ ?_ ?_ ?_ ?_ ?_ ?_ ?_ ?_ ?_ ?_ ?_ ?_ ?_ ?_ ?_ ?_ ?_
 .intro c _;unfold mu0 zaj;repeat' split
  all_goals exact no (by (try dsimp only [setM]);omega) (by (try dsimp only [setM]);omega)
 .intro c _;have hr:=hr (.inl c);unfold mu1;dsimp only;intro hW;split
  .refine ⟨fun e=>?_,fun e=>by dsimp only at e;omega⟩;have e:x.Ret=21\/x.Ret=22\/((x.Ret=1\/x.Ret=3)/\x.Ret=22):=e;exact (K (fun h=>hW (by split<;>exact .inl h))).1 (.inr (.inr ⟨.inl c,by omega⟩))
  .refine ⟨fun e=>?_,fun e=>by dsimp only at e;omega⟩;have e:(3:Int)=21\/(3:Int)=22\/(((3:Int)=1\/(3:Int)=3)/\x.Ret=22):=e;exact (K (fun h=>hW (by split<;>exact .inl h))).1 (.inr (.inr ⟨.inl c,by omega⟩))
 .intro c _;unfold mu2;exact no (by (try dsimp only);omega) (by (try dsimp only);omega)
 .intro c _;unfold mu3;dsimp only;intro hW;have eH:(zx s x.G).1.H=s.H:=by rw [uJ]
  split
  .refine ⟨fun e=>?_,fun e=>by dsimp only at e;omega⟩;have e:(1:Int)=21\/(1:Int)=22\/(((1:Int)=1\/(1:Int)=3)/\x.Ret=22):=e;show x.Old=zU (zx s x.G).1.H _ _;rw [eH];exact (K (fun h=>hW (by split<;>exact .inl h))).1 (.inr (.inr ⟨.inr c,by omega⟩))
  .refine ⟨fun e=>?_,fun e=>by dsimp only at e;omega⟩;have e:x.PC=21\/x.PC=22\/((x.PC=1\/x.PC=3)/\x.Ret=22):=e;show x.Old=zU (zx s x.G).1.H _ _;rw [eH];exact (K (fun h=>hW (by split<;>exact .inl h))).1 (.inr (.inr ⟨.inr c,by omega⟩))
 .intro c _;unfold zg0;exact no (by (try dsimp only [setM]);omega) (by (try dsimp only [setM]);omega)
 .intro c _;unfold zdH;dsimp only;split
  .exact no (by (try dsimp only [vP]);omega) (by (try dsimp only [vP]);omega)
  .intro hW;refine ⟨fun _=>?_,fun e=>by dsimp only at e;omega⟩;show zr1 s m x=_;unfold zr1;rw [hP];rfl
 .intro c mono;unfold zd7;dsimp only;split
  .rename_i h;intro hW;have k:=(K (fun h=>hW (.inl h))).1 (.inl c);refine ⟨fun e=>by dsimp only at e;omega,fun _=>?_⟩;show zU s.H (uF x (opM p m x).A) (opM p m x).S=0\/zP s.T.Marks (zU s.H (uF x (opM p m x).A) (opM p m x).S)=true\/_;rw [<-k];rcases h with h | h
   .exact .inl h
   .right;left;unfold yT at h;split at h
    .rename_i h2;exact ((Zp _ _ _).1 h2).1
    .split at h
     .assumption
     .exact zk rfl h
  .intro hW;exact ⟨fun _=>(K (fun h=>hW (.inl h))).1 (.inl c),fun e=>by dsimp only at e;omega⟩
 .intro c mono;unfold zdz;dsimp only;split
  .intro hW;exact ⟨fun _=>(K (fun h=>hW (.inl h))).1 (.inr (.inl c)),fun e=>by dsimp only at e;omega⟩
  .intro hW;have k:=(K (fun h=>hW (.inl h))).1 (.inr (.inl c));refine ⟨fun e=>by dsimp only at e;omega,fun _=>.inr (.inr ?_)⟩;show zU s.H (uF x (opM p m x).A) (opM p m x).S∈x.Buf++[x.Old];rw [<-k];simp
 .intro c _;unfold zfD;exact no (by (try dsimp only [vP]);omega) (by (try dsimp only [vP]);omega)
 .intro c _;unfold U0;split
  .split
   .exact no (by (try dsimp only [setM]);omega) (by (try dsimp only [setM]);omega)
   .exact no (by (try dsimp only [vP]);omega) (by (try dsimp only [vP]);omega)
  .exact no (by (try dsimp only);omega) (by (try dsimp only);omega)
 .intro c _;unfold zea;dsimp only;split
  .exact no (by (try dsimp only);omega) (by (try dsimp only);omega)
  .exact no (by (try dsimp only);omega) (by (try dsimp only);omega)
 .intro c _;unfold zdD;dsimp only;repeat' split
  all_goals exact no (by (try dsimp only);omega) (by (try dsimp only);omega)
 .intro c _;unfold zhw;exact no (by (try dsimp only);omega) (by (try dsimp only);omega)
 .intro c _;unfold zdX;dsimp only;split
  .exact no (by (try dsimp only);omega) (by (try dsimp only);omega)
  .exact no (by (try dsimp only);omega) (by (try dsimp only);omega)
 .intro c _;unfold zdG;dsimp only;split
  .exact no (by (try dsimp only);omega) (by (try dsimp only);omega)
  .exact no (by (try dsimp only);omega) (by (try dsimp only);omega)
 .intro c _;unfold zd4;dsimp only;have:=zbp s (wc (x.Slot+1));split
  .exact no (by (try dsimp only);omega) (by (try dsimp only);omega)
  .exact no (by (try dsimp only);omega) (by (try dsimp only);omega)
 .intro c _;unfold UY;dsimp only;have:=zbp s x.Slot;split
  .exact no (by (try dsimp only);omega) (by (try dsimp only);omega)
  .exact no (by (try dsimp only);omega) (by (try dsimp only);omega)
 .intro c _;unfold zfi;exact no (by (try dsimp only);omega) (by (try dsimp only);omega)
 .intro c _;unfold zhe;exact no (by (try dsimp only);omega) (by (try dsimp only);omega)
 .intro _ hW;exact K (fun h=>hW (.inl h))
theorem zpe {p:zc}{nb k:Nat}{s s':za}{gh:Gh}(G:FG p nb k s gh) (F:X6 s s') {u:Int}(hu:u<=(s.H.Objs.length:Int)) (h:yT s.T u=1):yT s'.T u=1\/(yT s.T u=1/\s'.T={s.T with Black:=s.T.Black|||bit u}):=by
 have ht:=(vu _ _).1 h;rcases F with ⟨e,_⟩ | ⟨q,_,_,e,_⟩ | ⟨q,hq,e,_⟩ | ⟨_,_,e⟩
 .left;rw [e];exact h
 .left;rw [e,vu];exact ⟨(vw _ _ _).2 (.inl ht.1),ht.2⟩
 .by_cases hqu:u=q
  .right;subst hqu;exact ⟨h,e⟩
  .left;rw [e,vu];exact ⟨ht.1,fun hb=>(ZS hb).elim ht.2 (fun e=>hqu e)⟩
 .left;rw [e,vu];exact ⟨(vw _ _ _).2 (.inl ht.1),fun hb=>(ZS hb).elim ht.2 (fun e=>by omega)⟩
theorem zmY {p:zc}{nb k:Nat}{s s':za}{gh:Gh}(G:FG p nb k s gh) (F:X6 s s') {u:Int}(hu:u<=(s.H.Objs.length:Int)) (h: ¬zP s.T.Marks u=true) (h':zP s'.T.Marks u=true):yT s'.T u=1:=by
 have nb: ¬zP s.T.Black u=true:=fun e=>h (G.B.blk u e);rcases F with ⟨e,_⟩ | ⟨q,_,_,e,_⟩ | ⟨q,hq,e,_⟩ | ⟨_,_,e⟩
 .rw [e] at h';exact zk h' h
 .rw [vu];refine ⟨h',?_⟩;rw [e];exact nb
 .rw [e] at h';exact zk h' h
 .rw [e] at h';rcases ZS h' with h2 | h2
  .exact zk h2 h
  .omega
theorem zuO {p:zc}{nb:Nat}{s:za}(E:EOk p nb s) {u j:Int}(h:xj s.H u j=true):0<=j/\j<p.H.Slots:=by
 have hs:=YW h;have hm:zV s.H u∈s.H.Objs:=by
  unfold zV;rw [zBp,zBn (show (u-1).toNat<s.H.Objs.length by omega)];exact zBU _
 have h1:=(E.H.objs _ hm).1;have h2:=E.H.slots;omega
theorem zzr {s:za}{m:Int}{x:zg}(c:x.PC=3):(zq s m x).2.PC=1\/(zq s m x).2.PC=3:=by
 unfold zq;rw [ze,ze,ze,zb c];unfold mu3;dsimp only;split
 .exact .inl rfl
 .exact .inr c
theorem zxh {s:za}{m:Int}{x:zg}(c:x.PC=37):(zq s m x).2.Obj=x.Obj:=by
 have e37:zq s m x=UY s m x:=by
  unfold zq;rw [ze,ze,ze,ze,ze,ze,ze,ze,ze,ze,ze,ze,ze,ze,ze,ze,zb c]
 rw [e37];unfold UY;dsimp only;split<;>rfl
def zvo (s:za) (m:Int) (x:zg) (N C:List Int):Prop :=
 (N=[]/\C=[]/\(zq s m x).1.T=s.T)\/(N=[x.G.Obj]/\C=[]/\(x.PC=3\/x.PC=37)/\¬(s.T.Marks|||bit x.G.Obj=s.T.Marks)/\(zq s m x).1.T={s.T with Marks:=s.T.Marks|||bit x.G.Obj})\/(N=[]/\C=[x.Obj]/\x.PC=38/\(zq s m x).1.T=xP s.T x.Obj) \/
   (N=[]/\C=[]/\x.PC=30/\W3 s.H s.P.Most=true/\(zq s m x).1.H=wK s.H/\(zq s m x).1.T=X3 s.T (wc (s.H.Objs.length+1)))
theorem FG.fresh {p:zc}(hp:zB p) {nb k:Nat}{s:za}{gh:Gh}(G:FG p nb k s gh):X3 s.T (wc (s.H.Objs.length+1))=⟨s.T.Marks|||bit ((s.H.Objs.length:Int)+1),s.T.Black|||bit ((s.H.Objs.length:Int)+1)⟩/\¬zP s.T.Marks ((s.H.Objs.length:Int)+1)=true/\(s.H.Objs.length:Int)<=9:=by
 have hN0:=G.E.H.n;have hM0:=hp.most;have hn6:=hp.n;have nm: ¬zP s.T.Marks ((s.H.Objs.length:Int)+1)=true:=fun e=>by have:=G.mrk _ e;omega
 have hw:wc ((s.H.Objs.length:Int)+1)=(s.H.Objs.length:Int)+1:=yP;rw [hw,zhx (by omega) nm (fun e=>nm (G.B.blk _ e))];exact ⟨rfl,nm,by omega⟩
theorem zw9 {p:zc}(hp:zB p) {nb k:Nat}{s:za}{gh:Gh}(G:FG p nb k s gh) {m:Int}{i:Nat}{x:zg}(hx:s.Ms[i]? =some x) {N C:List Int}(hT:zvo s m x N C) {u:Int}(hg:yT s.T u=1)
  (h:(zq s m x).1.T={s.T with Black:=s.T.Black|||bit u}):x.PC=38/\x.Obj=u:=by
 have hb:=((vu _ _).1 hg).2;have hu:=(wg s.T.Black (Xv hg) u).2 (.inr rfl);rcases hT with ⟨_,_,e⟩ | ⟨_,_,_,_,e⟩ | ⟨_,_,c,e⟩ | ⟨_,_,_,_,e1,e⟩
 .rw [e] at h;have:=congrArg zA.Black h;exact zk (by rw [this];exact hu) hb
 .rw [e] at h;have:=congrArg zA.Black h;exact zk (by rw [this];exact hu) hb
 .have hob:yT s.T x.Obj=1:=G.grey (zlM hx (by unfold yh;rw [VG (.inr c)];simp));rw [e] at h;unfold xP at h;rw [zb hob] at h;have hbb:s.T.Black|||bit x.Obj=s.T.Black|||bit u:=congrArg zA.Black h;refine ⟨c,?_⟩;rw [<-hbb] at hu;rcases ZS hu with h2 | h2
  .exact zk h2 hb
  .exact h2.symm
 .obtain ⟨f1,f2,f3⟩:=G.fresh hp;rw [e,f1] at h;have:s.T.Marks|||bit ((s.H.Objs.length:Int)+1)=s.T.Marks:=congrArg zA.Marks h;exact zk (by rw [<-this];exact (wg _ (by omega) _).2 (.inr rfl)) f2
theorem zwN {p:zc}(hp:zB p) {nb k:Nat}{s:za}{gh:Gh}(G:FG p nb k s gh) {m:Int}{x:zg}{N C:List Int}(hT:zvo s m x N C) {u:Int}(hu:u<=(s.H.Objs.length:Int)) (h0: ¬zP s.T.Marks u=true) (h1:zP (zq s m x).1.T.Marks u=true):x.PC=3\/x.PC=37:=by
 rcases hT with ⟨_,_,e⟩ | ⟨_,_,c,_,e⟩ | ⟨_,_,c,e⟩ | ⟨_,_,c,_,_,e⟩
 .rw [e] at h1;exact zk h1 h0
 .exact c
 .rw [e,(zaO _ _).1] at h1;exact zk h1 h0
 .obtain ⟨f1,f2,f3⟩:=G.fresh hp;rw [e,f1] at h1;rcases ZS h1 with h | h
  .exact zk h h0
  .omega
theorem zqp {p:zc}{nb k:Nat}{s:za}{gh:Gh}(G:FG p nb k s gh) {i:Nat}{y:zh}(hy:s.Ws[i]? =some y) (hpc:y.PC=5\/y.PC=6\/y.PC=8):zP s.T.Marks y.Obj=true:=by
 have hg:yT s.T y.Obj=1:=G.grey (zc4 hy (by
  unfold zY;rcases hpc with e | e | e
  .rw [XW (.inl e)];simp
  .rw [zoQ e];simp
  .rw [XW (.inr e)];simp))
 exact ((vu _ _).1 hg).1
theorem zp7 {p:zc}{nb k:Nat}{s:za}{gh:Gh}(G:FG p nb k s gh) {i:Nat}{y:zg}(hy:s.Ms[i]? =some y) (hpc:y.PC=36\/y.PC=37\/y.PC=38):zP s.T.Marks y.Obj=true:=by
 have hg:yT s.T y.Obj=1:=G.grey (zlM hy (by
  unfold yh;rcases hpc with e | e | e
  .rw [VG (.inl e)];simp
  .rw [zmk e];simp
  .rw [VG (.inr e)];simp))
 exact ((vu _ _).1 hg).1
theorem PI.mutator {p:zc}(hp:zB p) {nb k:Nat}{s:za}{gh:Gh}(hk:k<4294960000) (G:FG p nb k s gh) {W:Int->Int->Prop}(I:PI p s W) {m:Int}(hm:1<=m/\m<=p.Mutators) (hd:s.Done=false):∃W',PI p (zS s m) W':=by
 obtain ⟨gh',G',F,x,hx,N,C,hbag,hT⟩:=G.mutator hp hk hm hd;have hT:zvo s m x N C:=hT;have hml:=G.E.ml;have hsl:=hp.slots;have hi:(m-1).toNat<s.Ms.length:=(zBt.1 hx).1;have ei:(((m-1).toNat:Nat):Int)+1=m:=by omega
 have eS:zS s m={(zq s m x).1 with Ms:=s.Ms.set (m-1).toNat (zq s m x).2}:=by
  unfold zS;rw [zd (by rw [hd];rintro (e | e | e)<;>first | cases e | omega),hx]
 have hMX:=G.M _ x hx;have hXO:=G.E.X _ x hx;have hcv:=I.cv _ x hx;rw [ei] at hXO hcv;have hP:=G.E.S.P;have eH:(zS s m).H=(zq s m x).1.H:=by rw [eS]
 have eT:(zS s m).T=(zq s m x).1.T:=by rw [eS]
 have eW:(zS s m).Ws=s.Ws:=by rw [eS];show (zq s m x).1.Ws=_;rw [zio]
 have eX:(zS s m).Ms=s.Ms.set (m-1).toNat (zq s m x).2:=by rw [eS]
 have mono:∀o,zP s.T.Marks o=true->zP (zS s m).T.Marks o=true:=fun o h=>F.mono h;obtain ⟨sl1,sl2⟩:=zw0 (s:=s) (m:=m) (gh:=gh) G.E.H.slots hsl hXO (I.sx _ x hx);have here:(zS s m).Ms[(m-1).toNat]? =some (zq s m x).2:=by rw [eX];exact zB3 hi
 have there:∀(i:Nat) y,i≠(m-1).toNat->s.Ms[i]? =some y->(zS s m).Ms[i]? =some y:=fun i y hne h=>by rw [eX,zBI (fun e=>hne e.symm)];exact h
 have back:∀(i:Nat) y,(zS s m).Ms[i]? =some y->(i=(m-1).toNat/\y=(zq s m x).2)\/(i≠(m-1).toNat/\s.Ms[i]? =some y):=fun i y h=>by
  rw [eX] at h;by_cases hne:i=(m-1).toNat
  .subst hne;rw [zB3 hi] at h;injection h with h;exact .inl ⟨rfl,h.symm⟩
  .rw [zBI (fun e=>hne e.symm)] at h;exact .inr ⟨hne,h⟩
 have heapS:∀u j,¬(x.PC=23/\u=uF x (opM p m x).A/\j=(opM p m x).S)->(xj s.H u j=true->xj (zS s m).H u j=true)/\zU (zS s m).H u j=zU s.H u j:=fun u j hne=>by
  rw [eH];rcases zw4 s m x with ⟨e,_⟩ | ⟨c,e,_⟩ | ⟨_,e⟩
  .rw [e];exact ⟨id,rfl⟩
  .rw [e,hP];obtain ⟨a,b⟩:=zzu (h:=s.H) (a:=uF x (opM p m x).A) (i:=(opM p m x).S) (v:=uF x (opM p m x).R) (u:=u) (j:=j) (fun e=>hne ⟨c,e⟩) (fun e=>(YW e).2.1);exact ⟨fun h=>a.trans h,b⟩
  .rw [e];exact zwS _ _ _
 have P:zo5 s (zS s m) W (fun u j=>W u j\/(x.PC=23/\u=uF x (opM p m x).A/\j=(opM p m x).S)):=by
  refine ⟨mono,fun o h=>?_,fun u j hW hj=>?_,fun u j hW hj hg hu=>?_,fun u j hW hj hm0 hm1=>?_⟩
  .rcases h with ⟨i,y,hy,h⟩ | ⟨i,y,hy,h⟩
   .right;left;exact ⟨i,y,by rw [eW];exact hy,h⟩
   .by_cases hne:i=(m-1).toNat
    .subst hne;rw [hx] at hy;injection hy with hy;subst hy;rcases zx0 (m:=m) hMX hXO G.B.blk h with h | h
     .right;right;exact ⟨_,_,here,h⟩
     .left;rw [eT];exact h
    .right;right;exact ⟨i,y,there i y hne hy,h⟩
  .by_cases hc:x.PC=23/\u=uF x (opM p m x).A/\j=(opM p m x).S
   .obtain ⟨c,rfl,rfl⟩:=hc;right;rcases (hcv hW).2 c with h | h | h
    .exact .inl h
    .exact .inr (.inl (mono _ h))
    .right;right;right;refine ⟨_,_,here,.inl ?_⟩;rcases zw4 s m x with ⟨_,e⟩ | ⟨_,_,e⟩ | ⟨e,_⟩
     .exact zk c e
     .rw [e];exact h
     .omega
   .left;obtain ⟨a,b⟩:=heapS u j hc;exact ⟨fun h=>h.elim hW hc,a hj,b⟩
  .have hpos:=YW hj;have hrow:=zuO G.E hj;have htint:yT (zS s m).T u=1:=by
    rcases zpe G F hpos.1.2 hg with h | ⟨_,h⟩
    .exact h
    .exfalso;obtain ⟨c,ho⟩:=zw9 hp G hx hT hg (by rw [<-eT];exact h);have hle:=hu.2 _ x hx (.inr (.inr c)) ho;have:=(I.sx _ x hx).2.2 c;omega
   rcases sl2 u j hpos.2.1 (hu.2 _ x hx) with h | h | h
   .left;refine ⟨htint,fun i y hy=>hu.1 i y (by rw [<-eW];exact hy),fun i y hy=>?_⟩;rcases back i y hy with ⟨_,rfl⟩ | ⟨_,hy⟩
    .exact h
    .exact hu.2 i y hy
   .exact .inr (.inl h)
   .exact .inr (.inr (.inr (.inr ⟨_,_,here,h⟩)))
  .have hpos:=YW hj;refine ⟨zmY G F hpos.1.2 hm0 hm1,fun i y hy hpc ho=>?_,fun i y hy hpc ho=>?_⟩
   .rw [eW] at hy;exact zk (ho▸zqp G hy hpc) hm0
   .rcases back i y hy with ⟨_,rfl⟩ | ⟨_,hy⟩
    .exfalso;rcases zwN hp G hT hpos.1.2 hm0 (by rw [<-eT];exact hm1) with c | c
     .have:=zzr (s:=s) (m:=m) c;omega
     .have h3:=zxh (s:=s) (m:=m) c;exact hm0 (by rw [<-ho,h3];exact zp7 G hx (.inr (.inl c)))
    .exact zk (ho▸zp7 G hy hpc) hm0
 refine ⟨fun u j=>W u j\/(x.PC=23/\u=uF x (opM p m x).A/\j=(opM p m x).S),fun o ho=>?_,fun i y hy=>I.sw i y (by rw [<-eW];exact hy),fun i y hy=>?_,fun i y hy=>?_⟩
 .have h0:o≠0:=by have:=ho.in;omega
  rcases I.lv o ho with h | h
  .exact .inl (mono o h)
  .exact P.prot h h0
 .rcases back i y hy with ⟨_,rfl⟩ | ⟨_,hy⟩
  .exact sl1
  .exact I.sx i y hy
 .rcases back i y hy with ⟨rfl,rfl⟩ | ⟨_,hy⟩
  .rw [ei,eS];exact zxL hP hcv (fun o h=>by rw [<-eT];exact mono o h) hXO.ret _
  .intro hW;have hW1: ¬W (uF y (opM p ((i:Int)+1) y).A) (opM p ((i:Int)+1) y).S:=fun h=>hW (.inl h);obtain ⟨a,b⟩:=I.cv i y hy hW1;have hh:=(heapS (uF y (opM p ((i:Int)+1) y).A) (opM p ((i:Int)+1) y).S (fun h=>hW (.inr h))).2;rw [hh];exact ⟨a,fun e=>(b e).imp id (fun h=>h.imp (mono _) id)⟩
theorem zsI {s:za}{w:Int}{x:zh}(c:x.PC=6):zi s w x=((zx s x.G).1,if (zx s x.G).2.Out=1 then {x with G:=(zx s x.G).2,PC:=onW s x.Slot} else {x with G:=(zx s x.G).2}):=by
 unfold zi;rw [ze,ze,ze,ze,ze,zb c]
theorem zw3 {p:zc}{s:za}{gh:Gh}{w:Int}{x:zh}(K:WX p s gh w x) (hb:∀o,zP s.T.Black o=true->zP s.T.Marks o=true) {o:Int}(h:zie x o):zie (zi s w x).2 o\/zP (zi s w x).1.T.Marks o=true:=by
 obtain ⟨c,h⟩:=h;obtain ⟨G,gm,gw,g0⟩:=K.p6 c;rw [zsI c];dsimp only;rcases znz G.md (h.2.2▸G.ob) (hb o) h with h' | h'
 .left;rw [zd (by have:=h'.1;omega)];exact ⟨c,h'⟩
 .exact .inr h'
theorem zoI {p:zc}{nb:Nat}{s:za}(hsl:s.H.Slots=p.H.Slots) (h1:1<=p.H.Slots/\p.H.Slots<=2) {w:Int}{x:zh}(O:WOk p nb w x) (S:zei p.H.Slots x) :
  zei p.H.Slots (zi s w x).2/\∀u j,0<=j->zg2 x u j->zg2 (zi s w x).2 u j\/zU s.H u j=0\/zie (zi s w x).2 (zU s.H u j):=by
 have hpc:=O.pc;have no:∀ {y:zh},y.PC≠5->y.PC≠6->y.PC≠8->zei p.H.Slots y/\∀u j,0<=j->zg2 x u j->zg2 y u j\/zU s.H u j=0\/zie y (zU s.H u j) :=
  fun a b c=>⟨⟨fun e=>zk e a,fun e=>zk e b,fun e=>zk e c⟩,fun u j _ _=>.inl (fun e=>by omega)⟩
 have zero:∀ {y:zh},y.PC=5->y.Slot=0->zei p.H.Slots y/\∀u j,0<=j->zg2 x u j->zg2 y u j\/zU s.H u j=0\/zie y (zU s.H u j) :=
  fun a b=>⟨⟨fun _=>by omega,fun e=>by omega,fun e=>by omega⟩,fun u j h0 _=>.inl (fun _ _=>by omega)⟩
 have on:∀k:Int,(onW s k=5/\k≠p.H.Slots)\/(onW s k=8/\k=p.H.Slots):=fun k=>by
  unfold onW;rw [hsl];split
  .rename_i e;exact .inr ⟨rfl,e⟩
  .rename_i e;exact .inl ⟨rfl,e⟩
 have lk:∀y:zh,(vh s.P w y).PC=1\/(vh s.P w y).PC=2:=fun y=>by unfold vh;split<;>simp
 by_cases c6:x.PC=6
 .have hs:=S.2.1 c6;rw [zsI c6];dsimp only;split
  .refine ⟨⟨fun e=>?_,fun e=>?_,fun e=>?_⟩,fun u j h0 h=>.inl (fun _ e=>h (.inr (.inl c6)) e)⟩
   .dsimp only at e ⊢;have:=on x.Slot;omega
   .dsimp only at e ⊢;have:=on x.Slot;omega
   .dsimp only at e ⊢;have:=on x.Slot;omega
  .exact ⟨⟨fun e=>zk e (by show ¬x.PC=5;omega),fun _=>hs,fun e=>zk e (by show ¬x.PC=8;omega)⟩,fun u j h0 h=>.inl (fun _ e=>h (.inr (.inl c6)) e)⟩
 have key:∀r:za×zh,zi s w x=r->(zei p.H.Slots r.2/\∀u j,0<=j->zg2 x u j->zg2 r.2 u j\/zU s.H u j=0\/zie r.2 (zU s.H u j))->zei p.H.Slots (zi s w x).2/\∀u j,0<=j->zg2 x u j->zg2 (zi s w x).2 u j\/zU s.H u j=0\/zie (zi s w x).2 (zU s.H u j):=fun r e h=>by rw [e];exact h
 by_cases c01:x.PC=0\/x.PC=1
 .refine key _ (by unfold zi;rw [zb c01]) ?_;dsimp only;split
  .exact zero rfl rfl
  split
  .have:=lk {x with D:=(zT s.M x.D).2};exact no (by omega) (by omega) (by omega)
  .exact no (by dsimp only;omega) (by dsimp only;omega) (by dsimp only;omega)
 by_cases c2:x.PC=2
 .refine key _ (by unfold zi;rw [zd c01,zb c2]) ?_;dsimp only;split
  .exact no (by dsimp only;omega) (by dsimp only;omega) (by dsimp only;omega)
  split
  .exact no (by show (0:Int)≠5;decide) (by show (0:Int)≠6;decide) (by show (0:Int)≠8;decide)
  .exact no (by dsimp only;omega) (by dsimp only;omega) (by dsimp only;omega)
 by_cases c3:x.PC=3
 .refine key _ (by unfold zi;rw [zd c01,zd c2,zb c3]) ?_;exact no (by dsimp only;omega) (by dsimp only;omega) (by dsimp only;omega)
 by_cases c4:x.PC=4
 .refine key _ (by unfold zi;rw [zd c01,zd c2,zd c3,zb c4]) ?_;dsimp only;split
  .exact no (by dsimp only;omega) (by dsimp only;omega) (by dsimp only;omega)
  .exact no (by dsimp only;omega) (by dsimp only;omega) (by dsimp only;omega)
 by_cases c:x.PC=5
 .have hs:=S.1 c;have ww:wc (x.Slot+1)=x.Slot+1:=yP;refine key _ (by unfold zi;rw [zd c01,zd c2,zd c3,zd c4,zb c]) ?_;dsimp only;rw [ww];split
  .rename_i hv;refine ⟨⟨fun e=>?_,fun e=>?_,fun e=>?_⟩,fun u j h0 h=>?_⟩
   .dsimp only at e ⊢;have:=on (x.Slot+1);omega
   .dsimp only at e ⊢;have:=on (x.Slot+1);omega
   .dsimp only at e ⊢;have:=on (x.Slot+1);omega
   .by_cases hu:x.Obj=u
    .have hle:=h (.inl c) hu;by_cases hj:j=x.Slot
     .right;left;rw [<-hu,hj];exact hv
     .left;intro _ _;show x.Slot+1<=j;omega
    .left;intro _ e;exact zk e hu
  .rename_i hv;refine ⟨⟨fun e=>zk e (by show ¬(6:Int)=5;decide),fun _=>⟨by show 1<=x.Slot+1;omega,by show x.Slot+1<=_;omega⟩,fun e=>zk e (by show ¬(6:Int)=8;decide)⟩,fun u j h0 h=>?_⟩;by_cases hu:x.Obj=u
   .have hle:=h (.inl c) hu;by_cases hj:j=x.Slot
    .right;right;exact ⟨rfl,rfl,.inl rfl,by rw [<-hu,hj];rfl⟩
    .left;intro _ _;show x.Slot+1<=j;omega
   .left;intro _ e;exact zk e hu
 by_cases c7:x.PC=7
 .refine key _ (by unfold zi;rw [zd c01,zd c2,zd c3,zd c4,zd c,zd c6,zb c7]) ?_;dsimp only;split
  .exact no (by show (0:Int)≠5;decide) (by show (0:Int)≠6;decide) (by show (0:Int)≠8;decide)
  .exact zero rfl rfl
 by_cases c8:x.PC=8
 .refine key _ (by unfold zi;rw [zd c01,zd c2,zd c3,zd c4,zd c,zd c6,zd c7,zb c8]) ?_;exact no (by dsimp only;omega) (by dsimp only;omega) (by dsimp only;omega)
 have c9:x.PC=9:=by omega
 refine key _ (by unfold zi;rw [zd c01,zd c2,zd c3,zd c4,zd c,zd c6,zd c7,zd c8,zb c9]) ?_;exact no (by dsimp only;omega) (by dsimp only;omega) (by dsimp only;omega)
theorem PI.worker {p:zc}(hp:zB p) {nb k:Nat}{s:za}{gh:Gh}(hk:k<4294960000) (G:FG p nb k s gh) {W:Int->Int->Prop}(I:PI p s W) {w:Int}(hw:1<=w/\w<=p.Workers) (hd:s.Done=false):PI p (zt s w) W:=by
 obtain ⟨gh',G',F,x,hx,N,C,hbag,hT⟩:=G.worker hp hk hw hd;have hwl:=G.E.wl;have hsl:=hp.slots;have hi:(w-1).toNat<s.Ws.length:=(zBt.1 hx).1;have ei:(((w-1).toNat:Nat):Int)+1=w:=by omega
 have eS:zt s w={(zi s w x).1 with Ws:=s.Ws.set (w-1).toNat (zi s w x).2}:=by
  unfold zt;rw [zd (by rw [hd];rintro (e | e | e)<;>first | cases e | omega),hx]
 have hWX:=G.W _ x hx;have hWO:=G.E.W _ x hx;rw [ei] at hWX hWO;have hfr:=zcB (s:=s) hWO;have eH:(zt s w).H=s.H:=by rw [eS];show (zi s w x).1.H=_;rw [hfr]
 have eT:(zt s w).T=(zi s w x).1.T:=by rw [eS]
 have eX:(zt s w).Ms=s.Ms:=by rw [eS];show (zi s w x).1.Ms=_;rw [hfr]
 have eW:(zt s w).Ws=s.Ws.set (w-1).toNat (zi s w x).2:=by rw [eS]
 have mono:∀o,zP s.T.Marks o=true->zP (zt s w).T.Marks o=true:=fun o h=>F.mono h;obtain ⟨sl1,sl2⟩:=zoI (s:=s) (w:=w) G.E.H.slots hsl hWO (I.sw _ x hx);have here:(zt s w).Ws[(w-1).toNat]? =some (zi s w x).2:=by rw [eW];exact zB3 hi
 have there:∀(i:Nat) y,i≠(w-1).toNat->s.Ws[i]? =some y->(zt s w).Ws[i]? =some y:=fun i y hne h=>by rw [eW,zBI (fun e=>hne e.symm)];exact h
 have back:∀(i:Nat) y,(zt s w).Ws[i]? =some y->(i=(w-1).toNat/\y=(zi s w x).2)\/(i≠(w-1).toNat/\s.Ws[i]? =some y):=fun i y h=>by
  rw [eW] at h;by_cases hne:i=(w-1).toNat
  .subst hne;rw [zB3 hi] at h;injection h with h;exact .inl ⟨rfl,h.symm⟩
  .rw [zBI (fun e=>hne e.symm)] at h;exact .inr ⟨hne,h⟩
 have P:zo5 s (zt s w) W W:=by
  refine ⟨mono,fun o h=>?_,fun u j hW hj=>.inl ⟨hW,by rw [eH];exact hj,by rw [eH]⟩,fun u j hW hj hg hu=>?_,fun u j hW hj hm0 hm1=>?_⟩
  .rcases h with ⟨i,y,hy,h⟩ | ⟨i,y,hy,h⟩
   .by_cases hne:i=(w-1).toNat
    .subst hne;rw [hx] at hy;injection hy with hy;subst hy;rcases zw3 hWX G.B.blk h with h | h
     .right;left;exact ⟨_,_,here,h⟩
     .left;rw [eT];exact h
    .right;left;exact ⟨i,y,there i y hne hy,h⟩
   .right;right;exact ⟨i,y,by rw [eX];exact hy,h⟩
  .have hpos:=YW hj;have hrow:=zuO G.E hj;have htint:yT (zt s w).T u=1:=by
    rcases zpe G F hpos.1.2 hg with h | ⟨_,h⟩
    .exact h
    .exfalso;have hb:=((vu _ _).1 hg).2;have huu:=(wg s.T.Black (Xv hg) u).2 (.inr rfl);rcases hT with ⟨_,_,e⟩ | ⟨_,_,_,_,e⟩ | ⟨_,_,c,e⟩
     .rw [eT,e] at h;have:=congrArg zA.Black h;exact zk (by rw [this];exact huu) hb
     .rw [eT,e] at h;have:=congrArg zA.Black h;exact zk (by rw [this];exact huu) hb
     .have hob:yT s.T x.Obj=1:=G.grey (zc4 hx (by unfold zY;rw [XW (.inr c)];simp));rw [eT,e] at h;unfold xP at h;rw [zb hob] at h;have hbb:s.T.Black|||bit x.Obj=s.T.Black|||bit u:=congrArg zA.Black h;rw [<-hbb] at huu;rcases ZS huu with h2 | h2
      .exact hb h2
      .have hle:=hu.1 _ x hx (.inr (.inr c)) h2.symm;have:=(I.sw _ x hx).2.2 c;omega
   rcases sl2 u j hpos.2.1 (hu.1 _ x hx) with h | h | h
   .left;refine ⟨htint,fun i y hy=>?_,fun i y hy=>hu.2 i y (by rw [<-eX];exact hy)⟩;rcases back i y hy with ⟨_,rfl⟩ | ⟨_,hy⟩
    .exact h
    .exact hu.1 i y hy
   .exact .inr (.inl h)
   .exact .inr (.inr (.inr (.inl ⟨_,_,here,h⟩)))
  .have hpos:=YW hj;refine ⟨zmY G F hpos.1.2 hm0 hm1,fun i y hy hpc ho=>?_,fun i y hy hpc ho=>?_⟩
   .rcases back i y hy with ⟨_,rfl⟩ | ⟨_,hy⟩
    .exfalso;rcases hT with ⟨_,_,e⟩ | ⟨_,_,c,_,e⟩ | ⟨_,_,c,e⟩
     .rw [eT,e] at hm1;exact hm0 hm1
     .have h3:(zi s w x).2.Obj=x.Obj:=by rw [zsI c];dsimp only;split<;>rfl
      exact hm0 (by rw [<-ho,h3];exact zqp G hx (.inr (.inl c)))
     .rw [eT,e,(zaO _ _).1] at hm1;exact hm0 hm1
    .exact zk (ho▸zqp G hy hpc) hm0
   .rw [eX] at hy;exact zk (ho▸zp7 G hy hpc) hm0
 refine ⟨fun o ho=>?_,fun i y hy=>?_,fun i y hy=>I.sx i y (by rw [<-eX];exact hy),fun i y hy hW=>?_⟩
 .have h0:o≠0:=by have:=ho.in;omega
  rcases I.lv o ho with h | h
  .exact .inl (mono o h)
  .exact P.prot h h0
 .rcases back i y hy with ⟨_,rfl⟩ | ⟨_,hy⟩
  .exact sl1
  .exact I.sw i y hy
 .rw [eX] at hy;obtain ⟨a,b⟩:=I.cv i y hy hW;rw [eH];exact ⟨a,fun e=>(b e).imp id (fun h=>h.imp (mono _) id)⟩
theorem zyO {m:List (BitVec 64)}{d:zm}(h:0<=d.PC/\d.PC<=6):d.PC<(zbG m d).2.PC/\(zbG m d).2.PC<=7:=by
 unfold zbG;rw [ze];split
 .dsimp only;omega
 split
 .dsimp only;omega
 split
 .dsimp only;split<;>omega
 split
 .dsimp only;omega
 split
 .dsimp only;split<;>omega
 split
 .dsimp only;omega
 .dsimp only;omega
theorem zvz {m:List (BitVec 64)}{d:zm}(h:0<=d.PC/\d.PC<=3):d.PC<(WM m d).2.PC/\(WM m d).2.PC<=7:=by
 unfold WM;rw [ze];split
 .dsimp only;omega
 split
 .dsimp only;omega
 split
 .dsimp only;omega
 .split<;>(dsimp only;omega)
theorem zvT {m:List (BitVec 64)}{d:zm}(h0:d.Out=0) (h:(d.Kind=2/\0<=d.PC/\d.PC<=6)\/(d.Kind=3/\0<=d.PC/\d.PC<=3)):d.PC<(zT m d).2.PC/\(zT m d).2.PC<=7:=by
 unfold zT;rw [ze];rcases h with ⟨k,h⟩ | ⟨k,h⟩
 .rw [ze,zb k];exact zyO h
 .rw [ze,ze,zb k];exact zvz h
def zfj (n w v:Int):Nat:=(if v<w then w-v else n+w-v).toNat
theorem zp9 {n w v:Int}(hw:1<=w/\w<=n) (hv:1<=v/\v<=n):1<=zfj n w v/\zfj n w v<=n.toNat:=by
 unfold zfj;split<;>omega
theorem zwn {n w v:Int}(hw:1<=w/\w<=n) (hv:1<=v/\v<=n) (h:zaK n v≠w):zfj n w (zaK n v)+1<=zfj n w v:=by
 unfold zaK at h ⊢;unfold zfj;by_cases c:v<n
 .rw [zb c] at h ⊢;by_cases c2:v<w
  .rw [zb c2];split<;>omega
  .rw [zd c2];split<;>omega
 .rw [zd c] at h ⊢;by_cases c2:v<w
  .omega
  .rw [zd c2];split<;>omega
def v8 (p:zc) (M:List (BitVec 64)) (w:Int) (x:zh):Nat :=
 if x.PC=0\/x.PC=1 then 380+10*zfj p.Workers w x.Victim+(8-x.D.PC).toNat
 else if x.PC=2 then 371+uK M x.C
 else if x.PC=3 then 370
 else 2+40*x.Batch.length+(if x.PC=4 then 1+uK M x.C else if x.PC=5 then 2+16*(p.H.Slots-x.Slot).toNat else if x.PC=6 then 3+16*(p.H.Slots-x.Slot).toNat+Z4 M x.G else if x.PC=8 then 2 else if x.PC=9 then 1 else 0)
theorem zuB {p:zc}{s:za}{gh:Gh}{g:zH}(G:GX p s gh g) (h0:g.Out=0):Z4 s.M g<=13:=by
 have hpc:=G.pc;unfold Z4;split
 .have:=zjE s.M (c:=g.C) (by have:=(G.c7 (by assumption) h0).2.1;omega);omega
 split
 .omega
 split
 .have:=zjE s.M (c:=g.C) (by have:=(G.c5 (by assumption) h0).2.1;omega);omega
 split
 .omega
 split
 .have:=(G.d3 (by assumption) h0).2.2.pc;omega
 split
 .omega
 split<;>omega
theorem zzp {p:zc}(hp:zB p) {k:Nat}{s:za}{gh:Gh}{w:Int}{x:zh}(hk:k<4294960000) (G:FG p (z7 p+1) k s gh) (hw:1<=w/\w<=p.Workers) (hx:s.Ws[(w-1).toNat]? =some x) (O:WOk p (z7 p+1) w x) (K:WX p s gh w x) (S:zei p.H.Slots x) (hb:x.Batch.length<=9) (h3:x.PC=3->(Xy s x.Bin).length<=9) (hO:(zi s w x).2.PC=6->(zi s w x).2.G.Out=0) (hO0:(zi s w x).2.PC<=1->(zi s w x).2.D.Out=0) (hO2:(zi s w x).2.PC=2\/(zi s w x).2.PC=4->(zi s w x).2.C.Out=0) :
  v8 p (zi s w x).1.M w (zi s w x).2<v8 p s.M w x\/((zi s w x).2.PC=0/\(zi s w x).2.D.PC=0/\(zi s w x).2.Victim=w):=by
 have hP:=G.E.S.P;have hpc:=O.pc;have hvic:=O.vic;have hsl:=hp.slots;have hsH:s.H.Slots=p.H.Slots:=G.E.H.slots;have hlen:=G.X.L.len;have hF:=vi hp;have hEm:=xB hp;have hnb:=G.X.S.nbk;have on:∀i:Int,(onW s i=5/\i≠p.H.Slots)\/(onW s i=8/\i=p.H.Slots):=fun i=>by
  unfold onW;rw [hsH];split
  .exact .inr ⟨rfl,by assumption⟩
  .exact .inl ⟨rfl,by assumption⟩
 have far:∀ {M:List (BitVec 64)}{y:zh},4<=y.PC->v8 p M w y=2+40*y.Batch.length+(if y.PC=4 then 1+uK M y.C else if y.PC=5 then 2+16*(p.H.Slots-y.Slot).toNat else if y.PC=6 then 3+16*(p.H.Slots-y.Slot).toNat+Z4 M y.G else if y.PC=8 then 2 else if y.PC=9 then 1 else 0):=fun h=>by
  unfold v8;rw [ze,ze,ze]
 have onv:∀ {M:List (BitVec 64)}{y:zh},y.Batch=x.Batch->y.PC=onW s y.Slot->v8 p M w y<=2+40*x.Batch.length+2+16*(p.H.Slots-y.Slot).toNat:=fun {M y} h1 h2=>by
  rcases on y.Slot with ⟨a,b⟩ | ⟨a,b⟩
  .rw [far (by omega),h1,ze,yo];omega
  .rw [far (by omega),h1,ze,ze,ze,yo];omega
 revert hO hO0 hO2;unfold zi;by_cases c01:x.PC=0\/x.PC=1
 .rw [zb c01];dsimp only;have hbt:=K.bt (by omega);have hd:(x.D.Out=0/\((x.D.Kind=2/\0<=x.D.PC/\x.D.PC<=6)\/(x.D.Kind=3/\0<=x.D.PC/\x.D.PC<=3))):=by
   rcases c01 with c | c
   .have:=K.p0 c;exact ⟨this.out,.inl ⟨this.kind,this.pc⟩⟩
   .have:=K.p1 c;exact ⟨this.out,.inr ⟨this.kind,this.pc⟩⟩
  have hq:=zvT (m:=s.M) hd.1 hd.2;have hv:=zp9 hw hvic;have e0:v8 p s.M w x=380+10*zfj p.Workers w x.Victim+(8-x.D.PC).toNat:=by unfold v8;rw [zb c01]
  split
  .intro _ _ _;left;rw [e0,far (by show (4:Int)<=5;decide),zd (by show ¬(5:Int)=4;decide),zb rfl];dsimp only;rw [hbt];show 2+40*0+(2+16*(p.H.Slots-0).toNat)<_;omega
  split
  .intro _ _ _;left;rw [hP];unfold vh;split
   .rw [e0];unfold v8;rw [zd (by show ¬((2:Int)=0\/(2:Int)=1);decide),zb rfl];have:uK (zT s.M x.D).1 (zqo p (yb p) 0)=3:=rfl;show 371+uK (zT s.M x.D).1 (zqo p (yb p) 0)<_;rw [this];omega
   .rename_i hne;have:=zwn hw hvic hne;rw [e0];unfold v8;rw [zb (.inr rfl)];show 380+10*zfj p.Workers w (zaK p.Workers x.Victim)+(8-0:Int).toNat<_;omega
  .intro _ _ _;left;rw [e0];unfold v8;rw [zb c01];show 380+10*zfj p.Workers w x.Victim+(8-(zT s.M x.D).2.PC).toNat<_;omega
 rw [zd c01];by_cases c2:x.PC=2
 .rw [zb c2];dsimp only;obtain ⟨q1,q2,q3⟩:=K.p2 c2;have PO:=O.c2 c2;have e0:v8 p s.M w x=371+uK s.M x.C:=by unfold v8;rw [zd c01,zb c2]
  have hr:=zfZ (m:=s.M) q1 q2 (.inr PO.k) (by have:=PO.h;omega) (fun e=>by have:=PO.k;omega);split
  .intro _ _ _;left;rw [e0];unfold v8;rw [zd (by show ¬((3:Int)=0\/(3:Int)=1);decide),zd (by show ¬(3:Int)=2;decide),zb rfl];omega
  split
  .intro _ _ _;right;rw [hP];exact ⟨rfl,rfl,rfl⟩
  .intro _ _ hO2;left;have ho:=hO2 (.inl c2);have:=hr.resolve_left (fun h=>h ho);rw [e0];unfold v8;rw [zd c01,zb c2];show 371+uK (zo s.M x.C).1 (zo s.M x.C).2<_;omega
 rw [zd c2];by_cases c3:x.PC=3
 .rw [zb c3];intro _ _ _;left;have e0:v8 p s.M w x=370:=by unfold v8;rw [zd c01,zd c2,zb c3]
  have:=h3 c3;rw [e0,far (by show (4:Int)<=4;decide),zb rfl];have:uK s.M (Wf s.P (zO s.P) x.Bin)=3:=rfl;show 2+40*(Xy s x.Bin).length+(1+uK s.M (Wf s.P (zO s.P) x.Bin))<370;omega
 rw [zd c3];have e0:=far (M:=s.M) (y:=x) (by omega);by_cases c4:x.PC=4
 .rw [zb c4];dsimp only;obtain ⟨q1,q2,q3,q4⟩:=K.p4 c4;have PO:=O.c4 c4;rw [zb c4] at e0;have hr:=zfZ (m:=s.M) q1 q2 (.inl PO.k) (by have:=PO.h;omega) (fun _=>by have:=PO.h;have:=PO.n;have:=PO.x;rw [PO.n,yP];omega);split
  .intro _ _ _;left;rw [e0,far (by show (4:Int)<=7;decide),zd (by show ¬(7:Int)=4;decide),zd (by show ¬(7:Int)=5;decide),zd (by show ¬(7:Int)=6;decide),zd (by show ¬(7:Int)=8;decide),zd (by show ¬(7:Int)=9;decide)];dsimp only;omega
  .intro _ _ hO2;left;have:=hr.resolve_left (fun h=>h (hO2 (.inr c4)));rw [e0,far (by show 4<=x.PC;omega),zb (show x.PC=4 from c4)];show 2+40*x.Batch.length+(1+uK (zo s.M x.C).1 (zo s.M x.C).2)<_;omega
 rw [zd c4];rw [zd c4] at e0;by_cases c5:x.PC=5
 .rw [zb c5];intro _ _ _;left;have hs:=S.1 c5;have ws:wc (x.Slot+1)=x.Slot+1:=yP;rw [zb c5] at e0;split
  .have:=onv (M:=s.M) (y:={x with Slot:=wc (x.Slot+1),PC:=onW s (wc (x.Slot+1))}) rfl rfl;dsimp only at this ⊢;rw [ws] at this ⊢;omega
  .rw [e0,far (by show (4:Int)<=6;decide),zd (by show ¬(6:Int)=4;decide),zd (by show ¬(6:Int)=5;decide),zb rfl];have:Z4 s.M (Zh 1 (zU s.H x.Obj x.Slot) w)=13:=rfl;dsimp only;rw [this,ws];omega
 rw [zd c5];rw [zd c5] at e0;by_cases c6:x.PC=6
 .rw [zb c6];rw [zb c6] at e0;dsimp only;obtain ⟨GK,gm,gw,g0⟩:=K.p6 c6;have MO:=O.g6 c6;have hrem:=zxK hp G.X GK MO.1 g0 (fun h5 e2=>by
   obtain ⟨q1,q2,q3⟩:=GK.c5 h5 g0;obtain ⟨m1,m2,m3,m4,m5⟩:=MO.1.c5 h5;have S':SOk p (z7 p+1) {s with M:=(zo s.M x.G.C).1}:=(zme hp G.X.S (.inr rfl) m1 m2 m3 m4 m5 (MO.2.1 h5)).1;rcases SX.popE hp G.X hk m1 m2 m3 q1 q2 q3 m4 S' with ⟨x1,x2,x3,x4⟩ | ⟨y,l,x1,x2,x3⟩
   .exact G.empty hp (.inl ⟨x,zBq hx,by rw [zoG c6];exact vA (.inr (by omega))⟩) (x4 e2)
   .omega)
  split
  .intro _ _ _;left;have:=onv (M:=(zx s x.G).1.M) (y:={x with G:=(zx s x.G).2,PC:=onW s x.Slot}) rfl rfl;dsimp only at this ⊢;rw [e0];omega
  .intro hO _ _;left;have:=hrem.resolve_left (fun h=>h (hO c6));rw [e0,far (by show 4<=x.PC;omega),zd (by show ¬x.PC=4;omega),zd (by show ¬x.PC=5;omega),zb (show x.PC=6 from c6)];dsimp only;omega
 rw [zd c6];rw [zd c6] at e0;by_cases c7:x.PC=7
 .rw [zb c7];rw [ze,ze] at e0;intro _ _ _;dsimp only;split
  .right;rw [hP];exact ⟨rfl,rfl,rfl⟩
  .rename_i o l e;left;rw [e] at e0;rw [e0,far (by show (4:Int)<=5;decide),zd (by show ¬(5:Int)=4;decide),zb rfl];show 2+40*l.length+(2+16*(p.H.Slots-0).toNat)<2+40*(o::l).length+0;rw [zBv];omega
 rw [zd c7];by_cases c8:x.PC=8
 .rw [zb c8];rw [zb c8] at e0;intro _ _ _;left;rw [e0,far (by show (4:Int)<=9;decide),zd (by show ¬(9:Int)=4;decide),zd (by show ¬(9:Int)=5;decide),zd (by show ¬(9:Int)=6;decide),zd (by show ¬(9:Int)=8;decide),zb rfl];dsimp only;omega
 rw [zd c8];rw [zd c8] at e0;have c9:x.PC=9:=by omega
 rw [zb c9] at e0;rw [zb c9];intro _ _ _;left;rw [e0,far (by show (4:Int)<=7;decide),zd (by show ¬(7:Int)=4;decide),zd (by show ¬(7:Int)=5;decide),zd (by show ¬(7:Int)=6;decide),zd (by show ¬(7:Int)=8;decide),zd (by show ¬(7:Int)=9;decide)];dsimp only;omega
theorem zs9 {α β:Type}{f:α->List β}{x:α}:∀ {l:List α},x∈l->(f x).Sublist (l.flatMap f)
 | [],h=>by cases h
 | a::l,h=>by
  rw [zCa];rcases zBG.1 h with rfl | h
  .exact List.sublist_append_left _ _
  .exact (zs9 h).trans (List.sublist_append_right _ _)
theorem FG.hold9 {p:zc}(hp:zB p) {nb k:Nat}{s:za}{gh:Gh}(G:FG p nb k s gh) {x:zh}(hx:x∈s.Ws):(zY s x).length<=9:=by
 have hN:=G.E.H.n;have hn:=hp.n;have hmo:=hp.most;have hs:(zY s x).Sublist (Zf p s gh):=(zs9 hx).trans ((List.sublist_append_left _ _).trans (List.sublist_append_right _ _));have:=znp s.H.Objs.length _ (G.B.nd.sublist hs) (fun o ho=>by
  have ho:=hs.subset ho;exact ⟨(Xv ((G.B.gr o).1 ho)).1,G.mrk o ((vu _ _).1 ((G.B.gr o).1 ho)).1⟩)
 omega
structure SI (p:zc) (k:Nat) (s:za) (gh:Gh):Prop where
 G:FG p (z7 p+1) k s gh
 d:s.Done=false
 sl:∀(i:Nat) x,s.Ws[i]? =some x->zei p.H.Slots x
theorem SI.step2 {p:zc}(hp:zB p) {k:Nat}{s:za}{gh:Gh}(hk:k<4294960000) (I:SI p k s gh) {w:Int}(hw:1<=w/\w<=p.Workers) {x:zh}(hx:s.Ws[(w-1).toNat]? =some x) :
  ∃gh',SI p (k+1) (zt s w) gh'/\(zt s w).Ws[(w-1).toNat]? =some (zi s w x).2/\(v8 p (zi s w x).1.M w (zi s w x).2<v8 p s.M w x\/((zi s w x).2.PC=0/\(zi s w x).2.D.PC=0/\(zi s w x).2.Victim=w)) /\
   (zt s w).M=(zi s w x).1.M/\(zt s w).T=(zi s w x).1.T/\(zt s w).Bins=(zi s w x).1.Bins/\X6 s (zt s w):=by
 have G:=I.G;have hwl:=G.E.wl;have hi:(w-1).toNat<s.Ws.length:=by omega
 have ei:(((w-1).toNat:Nat):Int)+1=w:=by omega
 obtain ⟨gh',G',hFM,_⟩:=G.worker hp hk hw I.d;have eS:zt s w={(zi s w x).1 with Ws:=s.Ws.set (w-1).toNat (zi s w x).2}:=by
  unfold zt;rw [zd (by rw [I.d];rintro (e | e | e)<;>first | cases e | omega),hx]
 have eM:(zt s w).M=(zi s w x).1.M:=by rw [eS]
 have eX:(zt s w).Ws[(w-1).toNat]? =some (zi s w x).2:=by rw [eS];exact zB3 hi
 have O:=G.E.W _ x hx;have K:=G.W _ x hx;rw [ei] at O K;have K':=G'.W _ _ eX;have h9:=G.hold9 hp (zBq hx);unfold zY at h9;rw [zBz] at h9;have hst:=zzp hp hk G hw hx O K (I.sl _ x hx) (by omega) (fun c=>by rw [zku,<-ztD c];omega) (fun c=>(K'.p6 c).2.2.2) (fun c=>by
  have hpc:=(G'.E.W _ _ eX).pc;by_cases c0:(zi s w x).2.PC=0
  .exact (K'.p0 c0).out
  .exact (K'.p1 (by omega)).out) (fun c=>c.elim (fun c=>(K'.p2 c).1) (fun c=>(K'.p4 c).1))
 refine ⟨gh',⟨G',?_,fun i y hy=>?_⟩,eX,hst,eM,by rw [eS],by rw [eS],hFM⟩
 .have hf:=XR G.E w;rw [hf];exact I.d
 .rw [eS] at hy;have hy:(s.Ws.set (w-1).toNat (zi s w x).2)[i]? =some y:=hy;by_cases e:i=(w-1).toNat
  .subst e;rw [zB3 hi] at hy;injection hy with hy;subst hy;exact (zoI G.E.H.slots hp.slots O (I.sl _ x hx)).1
  .rw [zBI (fun h=>e h.symm)] at hy;exact I.sl i y hy
theorem SI.step {p:zc}(hp:zB p) {k:Nat}{s:za}{gh:Gh}(hk:k<4294960000) (I:SI p k s gh) {w:Int}(hw:1<=w/\w<=p.Workers) {x:zh}(hx:s.Ws[(w-1).toNat]? =some x) :
  ∃gh' x',SI p (k+1) (zt s w) gh'/\(zt s w).Ws[(w-1).toNat]? =some x'/\(v8 p (zt s w).M w x'<v8 p s.M w x\/(x'.PC=0/\x'.D.PC=0/\x'.Victim=w)):=by
 obtain ⟨gh',I',hX,h,eM,_⟩:=I.step2 hp hk hw hx;exact ⟨gh',_,I',hX,by rw [eM];exact h⟩
theorem SI.le {p:zc}(hp:zB p) {k:Nat}{s:za}{gh:Gh}(I:SI p k s gh) {w:Int}(hw:1<=w/\w<=p.Workers) {x:zh}(hx:s.Ws[(w-1).toNat]? =some x):v8 p s.M w x<=418:=by
 have G:=I.G;have hwk:=hp.wk;have hsl:=hp.slots;have ei:(((w-1).toNat:Nat):Int)+1=w:=by omega
 have O:=G.E.W _ x hx;have K:=G.W _ x hx;have S:=I.sl _ x hx;rw [ei] at O K;have h9:=G.hold9 hp (zBq hx);unfold zY at h9;rw [zBz] at h9;have hv:=zp9 hw O.vic;have hpc:=O.pc;unfold v8;split
 .rename_i c;have:0<=x.D.PC:=by
   rcases c with c | c
   .have:=(K.p0 c).pc;omega
   .have:=(K.p1 c).pc;omega
  omega
 split
 .have:=zjE s.M (c:=x.C) (by have:=(K.p2 (by assumption)).2.1;omega);omega
 split
 .omega
 split
 .have:=zjE s.M (c:=x.C) (by have:=(K.p4 (by assumption)).2.1;omega);omega
 split
 .have:=S.1 (by assumption);omega
 split
 .rename_i c;have:=S.2.1 c;have:=zuB (K.p6 c).1 (K.p6 c).2.2.2;omega
 split
 .omega
 split<;>omega
theorem zAe {p:zc}(hp:zB p):SI p 0 (yW p) (gh0 p):=by
 refine ⟨zwP hp,rfl,fun i x hx=>?_⟩;obtain ⟨j,_,e⟩:=zBB.1 (show x∈(zC5 p.Workers.toNat).map (wY p) from zBq hx);have:x.PC=0:=by rw [<-e];rfl
 exact ⟨fun e=>by omega,fun e=>by omega,fun e=>by omega⟩
def VE (p:zc) (M:List (BitVec 64)) (v:Int):Prop:=(ld M (zZ p v+1)).toNat<=(ld M (zZ p v)).toNat
theorem zzM (p:zc) (w:Int) (x:zh):(vh p w x).PC≠0:=by
 unfold vh;split
 .show (2:Int)≠0;decide
 .show (1:Int)≠0;decide
theorem VE.keep {p:zc}{M M':List (BitVec 64)}{v:Int}(h:VE p M v) (e0:ld M' (zZ p v)=ld M (zZ p v)) (e1:ld M' (zZ p v+1)=ld M (zZ p v+1)):VE p M' v:=by
 unfold VE;rw [e0,e1];exact h
theorem zqj {α:Type}{p q:α->Bool}(h:∀x,q x=true->p x=true):∀l:List α,(l.filter q).length<=(l.filter p).length
 | []=>zBm _
 | a::l=>by
  have ih:=zqj h l;rw [List.filter_cons,List.filter_cons];by_cases c:q a=true
  .rw [zb c,zb (h a c)];simp only [zBv];omega
  .rw [zd c];split
   .simp only [zBv];omega
   .exact ih
theorem zuv {α:Type}{p q:α->Bool}(h:∀x,q x=true->p x=true) {y:α}(hp:p y=true) (hq: ¬q y=true):∀l:List α,y∈l->(l.filter q).length+1<=(l.filter p).length
 | [],hy=>by cases hy
 | a::l,hy=>by
  rw [List.filter_cons,List.filter_cons];by_cases e:a=y
  .subst e;have:=zqj h l;rw [zd hq,zb hp];simp only [zBv];omega
  .have ih:=zuv h hp hq l ((zBG.1 hy).resolve_left (fun h=>e h.symm));by_cases c:q a=true
   .rw [zb c,zb (h a c)];simp only [zBv];omega
   .rw [zd c];split
    .simp only [zBv];omega
    .exact ih
def nbk (t:zA):Nat:=((zC5 9).filter (fun i:Nat=> !zP t.Black ((i:Int)+1))).length
theorem zzS (t:zA):nbk t<=9:=by
 unfold nbk;have:=List.length_filter_le (fun i:Nat=> !zP t.Black ((i:Int)+1)) (zC5 9);rw [List.length_range] at this;exact this
theorem zx3 {t t':zA}(h:∀o,zP t.Black o=true->zP t'.Black o=true):nbk t'<=nbk t:=by
 refine zqj (fun i hi=>?_) _;simp only [zBC,Bool.eq_false_iff] at hi ⊢;exact fun e=>hi (h _ e)
theorem zyc {t t':zA}{o:Int}(ho:1<=o/\o<=9) (hn: ¬zP t.Black o=true) (e:t'.Black=t.Black|||bit o):nbk t'+1<=nbk t:=by
 refine zuv (y:=(o-1).toNat) (fun i hi=>?_) ?_ ?_ _ (zBW.2 (by omega))
 .simp only [zBC,Bool.eq_false_iff] at hi ⊢;exact fun h=>hi (by rw [e];exact (vw _ _ _).2 (.inl h))
 .rw [show (((o-1).toNat:Nat):Int)+1=o by omega];simp only [zBC,Bool.eq_false_iff];exact hn
 .rw [show (((o-1).toNat:Nat):Int)+1=o by omega];simp only [zBC,Bool.eq_false_iff];exact fun h=>h (by rw [e];exact (wg _ (by omega) _).2 (.inr rfl))
theorem X6.black {s s':za}(F:X6 s s') (o:Int) (h:zP s.T.Black o=true):zP s'.T.Black o=true:=by
 rcases F with ⟨e,_⟩ | ⟨q,_,_,e,_⟩ | ⟨q,_,e,_⟩ | ⟨_,_,e⟩
 .rw [e];exact h
 .rw [e];exact h
 .rw [e];exact (vw _ _ _).2 (.inl h)
 .rw [e];exact (vw _ _ _).2 (.inl h)
def wL (p:zc) (M:List (BitVec 64)) (w:Int) (g:Nat) (x:zh):Nat :=
 if x.PC=0\/x.PC=1 then 60+10*zfj p.Workers w x.Victim+(8-x.D.PC).toNat
 else if x.PC=2 then 51+uK M x.C
 else if x.PC=3 then 50
 else if x.PC=4 then 42+uK M x.C
 else if x.PC=5 then 4+16*(p.H.Slots-x.Slot).toNat
 else if x.PC=6 then 5+16*(p.H.Slots-x.Slot).toNat+Z4 M x.G
 else if x.PC=7 then (if g=0 then 41 else 2)
 else if x.PC=8 then 4 else 3
theorem zuJ {p:zc}{M:List (BitVec 64)}{w:Int}{g:Nat}{x:zh}(h:x.PC=5\/x.PC=6\/x.PC=8\/x.PC=9):v8 p M w x=wL p M w g x+40*x.Batch.length:=by
 unfold v8 wL;rcases h with c | c | c | c
 all_goals
  simp only [c];simp
  try omega
theorem zrr {p:zc}(hp:zB p) {k:Nat}{s:za}{gh:Gh}{w:Int}{x:zh}(hk:k<4294960000) (G:FG p (z7 p+1) k s gh) (hw:1<=w/\w<=p.Workers) (O:WOk p (z7 p+1) w x) (K:WX p s gh w x) (h:x.PC<=2) :
  ((zi s w x).2.PC=5->(zi s w x).2.Slot=0)/\((zi s w x).2.PC=3->xt (zi s w x).1 (zi s w x).2.Bin≠[])/\(0<=(zi s w x).2.PC/\((zi s w x).2.PC<=3\/(zi s w x).2.PC=5))/\(x.PC<=1->(zi s w x).2.PC=0->(zi s w x).2.D.PC≠0):=by
 have hpc:=O.pc;have lk:∀y,(vh s.P w y).PC=1\/(vh s.P w y).PC=2:=fun y=>by
  unfold vh;split
  .exact .inr rfl
  .exact .inl rfl
 unfold zi;by_cases c01:x.PC=0\/x.PC=1
 .rw [zb c01];dsimp only;have hd:(x.D.Out=0/\((x.D.Kind=2/\0<=x.D.PC/\x.D.PC<=6)\/(x.D.Kind=3/\0<=x.D.PC/\x.D.PC<=3))):=by
   rcases c01 with c | c
   .have:=K.p0 c;exact ⟨this.out,.inl ⟨this.kind,this.pc⟩⟩
   .have:=K.p1 c;exact ⟨this.out,.inr ⟨this.kind,this.pc⟩⟩
  have hq:=zvT (m:=s.M) hd.1 hd.2;split
  .exact ⟨fun _=>rfl,fun e=>(by cases e),⟨by show (0:Int)<=5;decide,.inr rfl⟩,fun _ e=>(by cases e)⟩
  split
  .have:=lk {x with D:=(zT s.M x.D).2};exact ⟨fun e=>by omega,fun e=>by omega,by omega,fun _ e=>by omega⟩
  .refine ⟨fun e=>?_,fun e=>?_,?_,fun _ _=>?_⟩
   .have e:x.PC=5:=e;omega
   .have e:x.PC=3:=e;omega
   .show 0<=x.PC/\(x.PC<=3\/x.PC=5);omega
   .show (zT s.M x.D).2.PC≠0;omega
 rw [zd c01];have c2:x.PC=2:=by omega
 rw [zb c2];dsimp only;obtain ⟨q1,q2,q3⟩:=K.p2 c2;have PO:=O.c2 c2;split
 .rename_i ho;refine ⟨fun e=>(by cases e),fun _=>?_,⟨by show (0:Int)<=3;decide,.inl (by show (3:Int)<=3;decide)⟩,fun e=>by omega⟩;have S':SOk p (z7 p+1) {s with M:=(zo s.M x.C).1}:=(zme hp G.X.S (.inl rfl) PO.k PO.h PO.n PO.v PO.y PO.o).1;rcases SX.popF hp G.X hk PO.k PO.h PO.n q1 q2 q3 PO.v S' with ⟨_,x2,_⟩ | ⟨y,l,a,b,e,_⟩
  .exact zk ho x2
  .show xt s (zo s.M x.C).2.X≠[];rw [e];exact G.ne y (by rw [a];exact zBx ..)
 split
 .exact ⟨fun e=>(by cases e),fun e=>(by cases e),⟨by show (0:Int)<=0;decide,.inl (by show (0:Int)<=3;decide)⟩,fun e=>by omega⟩
 .refine ⟨fun e=>?_,fun e=>?_,?_,fun e=>by omega⟩
  .have e:x.PC=5:=e;omega
  .have e:x.PC=3:=e;omega
  .show 0<=x.PC/\(x.PC<=3\/x.PC=5);omega
theorem zph {s:za}{w:Int}{x:zh}(h:x.PC=5\/x.PC=6):((zi s w x).2.PC=5\/(zi s w x).2.PC=6\/(zi s w x).2.PC=8)/\(zi s w x).2.Batch=x.Batch:=by
 have on:∀i,onW s i=5\/onW s i=8:=fun i=>by
  unfold onW;split
  .exact .inr rfl
  .exact .inl rfl
 unfold zi;rw [ze,ze,ze,ze];by_cases c5:x.PC=5
 .rw [zb c5];dsimp only;split
  .exact ⟨(on _).elim .inl (fun h=>.inr (.inr h)),rfl⟩
  .exact ⟨.inr (.inl rfl),rfl⟩
 .rw [zd c5,yo];dsimp only;split
  .exact ⟨(on _).elim .inl (fun h=>.inr (.inr h)),rfl⟩
  .exact ⟨.inr (.inl (by show x.PC=6;omega)),rfl⟩
def HdS (p:zc) (m m':List (BitVec 64)):Prop:=ld m' (yb p)=ld m (yb p)/\ld m' (zO p)=ld m (zO p)
theorem HdS.refl (p:zc) (m:List (BitVec 64)):HdS p m m:=⟨rfl,rfl⟩
theorem zhs {m:List (BitVec 64)}{c:zJ}:(zo m c).2.Out=1\/∀a,a≠wc (c.Next+c.X)\/c.Kind=2->ld (zo m c).1 a=ld m a:=by
 unfold zo;split
 .exact .inr (fun _ _=>rfl)
 split
 .exact .inr (fun _ _=>rfl)
 split
 .split
  .exact .inr (fun _ _=>rfl)
  .rename_i h;refine .inr (fun a ha=>?_);exact yE (fun e=>ha.elim (fun h=>h e.symm) h)
 .dsimp only;cases hs:(sw m c.Head c.H (xz ((c.H >>> 32)+1#64) (if c.Kind=2 then c.Y else c.X))).2 with
  | true =>
   rw [zb rfl];left;split<;>rfl
  | false =>
   right;intro a _;have e:(sw m c.Head c.H (xz ((c.H >>> 32)+1#64) (if c.Kind=2 then c.Y else c.X))).1=m:=by
    unfold sw at hs ⊢;split
    .rename_i h;rw [zb h] at hs;cases hs
    .rfl
   rw [e]
theorem zq3 {p:zc}{m:List (BitVec 64)}{c:zJ}(hk:c.Kind=2) (h:(zo m c).2.Out≠1):HdS p m (zo m c).1:=by
 rcases zhs (m:=m) (c:=c) with e | e
 .exact zk e h
 .exact ⟨e _ (.inr hk),e _ (.inr hk)⟩
theorem zom {p:zc}(hp:zB p) {nb:Nat}(hnb:nb<1000) {hd:Int}{m:List (BitVec 64)}{c:zJ}(O:zo0 p nb hd c) (h:(zo m c).2.Out≠1):HdS p m (zo m c).1:=by
 have hf:=vi hp;have he:=xB hp;have hx:=O.x;rcases zhs (m:=m) (c:=c) with e | e
 .exact zk e h
 .have hw:wc (c.Next+c.X)=zO p+c.X:=by rw [O.n];exact yP
  exact ⟨e _ (.inl (by omega)),e _ (.inl (by omega))⟩
def bG (g:zH):Nat:=if g.PC=2 then 0 else if g.PC=6\/g.PC=7 then 1 else 2
def Bud (n:Int) (x:zh):Nat :=
 if x.PC=8 then 0 else if x.PC=6 then 2*(n-x.Slot).toNat+bG x.G else if x.PC=5 then 2*(n-x.Slot).toNat
 else if x.PC=7 then (if x.Batch=[] then 2*n.toNat+2 else 2*n.toNat) else if x.PC=3\/x.PC=4 then 2*n.toNat+1 else 2*n.toNat+2
def NeW (s:za) (x:zh):Prop:=(x.PC=3->xt s x.Bin≠[])/\(x.PC=4->x.Batch≠[])
theorem zaQ {n:Int}{x:zh}(h:x.PC=0\/x.PC=1\/x.PC=2\/x.PC=9):Bud n x=2*n.toNat+2:=by
 unfold Bud;rw [ze,ze,ze,ze,ze]
theorem zl8 {n:Int}{x:zh}(h:x.PC=3\/x.PC=4):Bud n x=2*n.toNat+1:=by
 unfold Bud;rw [ze,ze,ze,ze,zb h]
theorem zrZ {n:Int}{x:zh}(h:x.PC=5):Bud n x=2*(n-x.Slot).toNat:=by
 unfold Bud;rw [ze,ze,zb h]
theorem zvy {n:Int}{x:zh}(h:x.PC=6):Bud n x=2*(n-x.Slot).toNat+bG x.G:=by
 unfold Bud;rw [ze,zb h]
theorem zA0 {n:Int}{x:zh}(h:x.PC=8):Bud n x=0:=by unfold Bud;rw [zb h]
theorem zvh {n:Int}{x:zh}(h:x.PC=7):Bud n x=if x.Batch=[] then 2*n.toNat+2 else 2*n.toNat:=by
 unfold Bud;rw [ze,ze,ze,zb h]
theorem zyd {p:zc}(hp:zB p) {nb:Nat}(hnb:nb<1000) {k:Nat}{s:za}{gh:Gh}{g:zH}(hk:k<4294960000) (hP:s.P=p) (G:FG p nb k s gh) (K:GX p s gh g) (M:MOk p nb g) (h0:g.Out=0) (hm:g.Mode=1) (h4:g.PC≠4) :
  ((zx s g).2.Out=1/\(HdS p s.M (zx s g).1.M\/1<=bG g))\/((zx s g).2.Out≠1/\(bG (zx s g).2<=bG g/\(HdS p s.M (zx s g).1.M\/bG (zx s g).2+1<=bG g))):=by
 have hpc:=K.pc;have hF:=vi hp;have hE:=xB hp;have b2:∀ {y:zH},y.PC=0\/y.PC=1\/y.PC=3\/y.PC=5->bG y=2:=fun h=>by unfold bG;rw [ze,ze]
 have b1:∀ {y:zH},y.PC=6\/y.PC=7->bG y=1:=fun h=>by unfold bG;rw [ze,zb h]
 have b0:∀ {y:zH},y.PC=2->bG y=0:=fun h=>by unfold bG;rw [zb h]
 unfold zx;rw [ze];by_cases c7:g.PC=7
 .rw [zb c7,b1 (.inr c7)];obtain ⟨q1,q2,q3,q4,q5⟩:=M.c7 c7;unfold Uf;dsimp only;by_cases c:(zo s.M g.C).2.Out=1
  .rw [zb c];exact .inl ⟨rfl,.inr (zBm _)⟩
  .rw [zd c];have hh:=zom hp hnb (hd:=yb p) ⟨q1,q2,q3,q4,q5⟩ c;exact .inr ⟨by show g.Out≠1;omega,by rw [b1 (y:={g with C:=(zo s.M g.C).2}) (.inr c7)];exact zBm _,.inl hh⟩
 rw [zd c7];by_cases c6:g.PC=6
 .rw [zb c6,b1 (.inl c6)];unfold zmt;exact .inr ⟨by show g.Out≠1;omega,by rw [b1 (.inr rfl)];exact zBm _,.inl (HdS.refl _ _)⟩
 rw [zd c6];by_cases c5:g.PC=5
 .rw [zb c5,b2 (by omega)];obtain ⟨q1,q2,q3,q4,q5⟩:=M.c5 c5;unfold zeH;dsimp only;by_cases c:(zo s.M g.C).2.Out=1
  .rw [zb c];exact .inr ⟨by show g.Out≠1;omega,by rw [b1 (.inl rfl)];decide,.inr (by rw [b1 (.inl rfl)];exact zBm _)⟩
  rw [zd c];have hh:=zq3 (p:=p) (m:=s.M) q1 c;split
  .exact .inr ⟨by show g.Out≠1;omega,by rw [b2 (.inr (.inr (.inr rfl)))];exact zBm _,.inl hh⟩
  .exact .inr ⟨by show g.Out≠1;omega,by rw [b2 (y:={g with C:=(zo s.M g.C).2}) (.inr (.inr (.inr c5)))];exact zBm _,.inl hh⟩
 rw [zd c5,zd h4];by_cases c3:g.PC=3
 .rw [zb c3,b2 (by omega)];obtain ⟨_,d1,d2⟩:=K.d3 c3 h0;have hw:=M.who hm;have ho:=K.ob;have hdk:=G.X.dk g.Who hw.1 hw.2;obtain ⟨a,_,_⟩:=zkV hp hw (by have:=G.X.L.len;omega) (G.X.D g.Who hw.1 hw.2) d2 (by omega) (by rw [d1];omega);have hd:=uC hp hw.1 hw.2;have hh:HdS p s.M (yV s.M g.D).1:=⟨a _ (.inr (by omega)),a _ (.inr (by omega))⟩
  unfold zek;dsimp only;split
  .exact .inl ⟨rfl,.inl hh⟩
  split
  .exact .inr ⟨by show g.Out≠1;omega,by rw [b2 (.inr (.inr (.inr rfl)))];exact zBm _,.inl hh⟩
  .exact .inr ⟨by show g.Out≠1;omega,by rw [b2 (y:={g with D:=(yV s.M g.D).2}) (.inr (.inr (.inl c3)))];exact zBm _,.inl hh⟩
 rw [zd c3];by_cases c2:g.PC=2
 .rw [zb c2];exact .inl ⟨rfl,.inl (HdS.refl _ _)⟩
 rw [zd c2];by_cases c1:g.PC=1
 .rw [zb c1,b2 (by omega)];unfold zeI;dsimp only;split
  .exact .inr ⟨by show g.Out≠1;omega,by rw [b0 rfl];decide,.inl (HdS.refl _ _)⟩
  .exact .inr ⟨by show g.Out≠1;omega,by rw [b2 (.inr (.inr (.inl rfl)))];exact zBm _,.inl (HdS.refl _ _)⟩
 .rw [zd c1,b2 (by omega)];exact .inr ⟨by show g.Out≠1;omega,by rw [b2 (.inr (.inl rfl))];exact zBm _,.inl (HdS.refl _ _)⟩
theorem zxV {p:zc}(hp:zB p) {nb:Nat}(hnb:nb<1000) {k:Nat}{s:za}{gh:Gh}{w:Int}{x:zh}(hk:k<4294960000) (G:FG p nb k s gh) (hw:1<=w/\w<=p.Workers) (O:WOk p nb w x) (K:WX p s gh w x) (S:zei p.H.Slots x) (N:NeW s x) (h8:x.PC≠8) :
  Bud p.H.Slots (zi s w x).2<=Bud p.H.Slots x/\(HdS p s.M (zi s w x).1.M\/Bud p.H.Slots (zi s w x).2+1<=Bud p.H.Slots x):=by
 have hpc:=O.pc;have hF:=vi hp;have hE:=xB hp;have hsl:=hp.slots;have hsH:s.H.Slots=p.H.Slots:=G.E.H.slots;have hP:=G.E.S.P;have hlen:yb p<=s.M.length:=by have:=G.X.L.len;omega
 have on:∀ {y:zh},y.PC=onW s y.Slot->Bud p.H.Slots y<=2*(p.H.Slots-y.Slot).toNat:=fun {y} h=>by
  unfold onW at h;split at h
  .rw [zA0 h];omega
  .rw [zrZ h];omega
 unfold zi;by_cases c01:x.PC=0\/x.PC=1
 .rw [zb c01,zaQ (x:=x) (by omega)];have hh:HdS p s.M (zT s.M x.D).1:=by
   rcases c01 with c | c
   .obtain ⟨_,_,_,_,a,_⟩:=zcy hp hw hlen (G.X.D w hw.1 hw.2) (K.p0 c);have hd:=uC hp hw.1 hw.2;have hc:=hp.cap;exact ⟨a _ (by omega) (by omega),a _ (by omega) (by omega)⟩
   .have hv:=O.vic;have hd:=uC hp hv.1 hv.2;have hc:=hp.cap;rcases zkf hp hv hlen (G.X.D _ hv.1 hv.2) (K.p1 c) with ⟨e,_⟩ | ⟨_,_,_,_,_,_,a⟩
    .rw [e];exact HdS.refl _ _
    .exact ⟨a _ (by omega),a _ (by omega)⟩
  refine ⟨?_,.inl hh⟩;show Bud p.H.Slots (if _ then _ else _)<=_;split
  .rw [zrZ rfl];dsimp only;omega
  split
  .unfold vh;split
   .rw [zaQ (.inr (.inr (.inl rfl)))];exact zBm _
   .rw [zaQ (.inr (.inl rfl))];exact zBm _
  .rw [zaQ (by dsimp only;omega)];exact zBm _
 rw [zd c01];by_cases c2:x.PC=2
 .rw [zb c2,zaQ (x:=x) (by omega)];have hk2:=(O.c2 c2).k;dsimp only;by_cases c:(zo s.M x.C).2.Out=1
  .rw [zb c,zl8 (.inl rfl)];exact ⟨by omega,.inr (zBm _)⟩
  rw [zd c];have hh:=zq3 (p:=p) (m:=s.M) hk2 c;split
  .rw [zaQ (.inl rfl)];exact ⟨zBm _,.inl hh⟩
  .rw [zaQ (by dsimp only;omega)];exact ⟨zBm _,.inl hh⟩
 rw [zd c2];by_cases c3:x.PC=3
 .rw [zb c3,zl8 (.inl c3),zl8 (.inr rfl)];exact ⟨zBm _,.inl (HdS.refl _ _)⟩
 rw [zd c3];by_cases c4:x.PC=4
 .rw [zb c4,zl8 (.inr c4)];dsimp only;by_cases c:(zo s.M x.C).2.Out=1
  .rw [zb c,zvh rfl,zd (N.2 c4)];exact ⟨by omega,.inr (zBm _)⟩
  .rw [zd c,zl8 (.inr (by exact c4))];exact ⟨zBm _,.inl (zom hp hnb (O.c4 c4) c)⟩
 rw [zd c4];by_cases c5:x.PC=5
 .have hs:=S.1 c5;rw [zb c5,zrZ c5];refine ⟨?_,.inl (HdS.refl _ _)⟩;have hwc:wc (x.Slot+1)=x.Slot+1:=yP;dsimp only;split
  .refine zCf (on rfl) ?_;dsimp only;omega
  .rw [zvy rfl,show bG (Zh 1 (zU s.H x.Obj x.Slot) w)=2 from rfl];dsimp only;omega
 rw [zd c5];by_cases c6:x.PC=6
 .rw [zb c6,zvy c6];obtain ⟨k1,k2,k3,k4⟩:=K.p6 c6;obtain ⟨m1,_,_,m4⟩:=O.g6 c6;dsimp only;rcases zyd hp hnb hk hP G k1 m1 k4 k2 m4 with ⟨e,h⟩ | ⟨e,h1,h2⟩
  .rw [zb e];have hb:=on (y:={x with G:=(zx s x.G).2,PC:=onW s x.Slot}) rfl;dsimp only at hb;refine ⟨by omega,h.imp id (fun h=>by omega)⟩
  .rw [zd e,zvy (by exact c6)];dsimp only;exact ⟨by omega,h2.imp id (fun h=>by omega)⟩
 rw [zd c6];by_cases c7:x.PC=7
 .rw [zb c7,zvh c7];refine ⟨?_,.inl (HdS.refl _ _)⟩;dsimp only;cases hb:x.Batch with
  | nil =>
   dsimp only;rw [zb rfl,zaQ (.inl rfl)];exact zBm _
  | cons o l =>
   dsimp only;rw [zd (by simp),zrZ rfl];dsimp only;omega
 rw [zd c7,zd h8];have c9:x.PC=9:=by omega
 rw [zb c9,zaQ (x:=x) (by omega),zvh rfl];refine ⟨?_,.inl (HdS.refl _ _)⟩;split<;>omega
theorem zcR {p:zc}{m m':List (BitVec 64)}{c:zJ}(hpc:0<=c.PC/\c.PC<=2) (hh:c.Head=yb p\/c.Head=zO p):(HdS p m m'->uK m' c=uK m c)/\uK m' c<=uK m c+3:=by
 constructor
 .rintro ⟨h1,h2⟩;unfold uK;rcases hh with e | e<;>rw [e]<;>simp only [h1,h2]
 .unfold uK
  repeat' split
  all_goals omega
theorem zvV {p:zc}{nb:Nat}{s:za}{gh:Gh}{m':List (BitVec 64)}{g:zH}(K:GX p s gh g) (M:MOk p nb g) (h0:g.Out=0):(HdS p s.M m'->Z4 m' g=Z4 s.M g)/\Z4 m' g<=Z4 s.M g+3:=by
 unfold Z4;by_cases c7:g.PC=7
 .simp only [zb c7];have h:=zcR (p:=p) (m:=s.M) (m':=m') (c:=g.C) (K.c7 c7 h0).2.1 (.inl (M.c7 c7).2.1);exact h
 simp only [zd c7];by_cases c6:g.PC=6
 .simp only [zb c6];exact ⟨fun _=>(by first | rfl | trivial),by omega⟩
 simp only [zd c6];by_cases c5:g.PC=5
 .simp only [zb c5];have h:=zcR (p:=p) (m:=s.M) (m':=m') (c:=g.C) (K.c5 c5 h0).2.1 (.inr (M.c5 c5).2.1);exact ⟨fun e=>by rw [h.1 e],by have:=h.2;omega⟩
 simp only [zd c5];exact ⟨fun _=>(by first | rfl | trivial),by omega⟩
theorem zyk {p:zc}{nb:Nat}{s:za}{gh:Gh}{w:Int}{x:zh}{m':List (BitVec 64)}{g:Nat}(O:WOk p nb w x) (K:WX p s gh w x):(HdS p s.M m'->wL p m' w g x=wL p s.M w g x)/\wL p m' w g x<=wL p s.M w g x+3:=by
 unfold wL;by_cases c01:x.PC=0\/x.PC=1
 .simp only [zb c01];exact ⟨fun _=>(by first | rfl | trivial),by omega⟩
 simp only [zd c01];by_cases c2:x.PC=2
 .simp only [zb c2];have h:=zcR (p:=p) (m:=s.M) (m':=m') (c:=x.C) (K.p2 c2).2.1 (.inl (O.c2 c2).h);exact ⟨fun e=>by rw [h.1 e],by have:=h.2;omega⟩
 simp only [zd c2];by_cases c3:x.PC=3
 .simp only [zb c3];exact ⟨fun _=>(by first | rfl | trivial),by omega⟩
 simp only [zd c3];by_cases c4:x.PC=4
 .simp only [zb c4];have h:=zcR (p:=p) (m:=s.M) (m':=m') (c:=x.C) (K.p4 c4).2.1 (.inr (O.c4 c4).h);exact ⟨fun e=>by rw [h.1 e],by have:=h.2;omega⟩
 simp only [zd c4];by_cases c5:x.PC=5
 .simp only [zb c5];exact ⟨fun _=>(by first | rfl | trivial),by omega⟩
 simp only [zd c5];by_cases c6:x.PC=6
 .simp only [zb c6];obtain ⟨k1,k2,k3,k4⟩:=K.p6 c6;have h:=zvV (m':=m') k1 (O.g6 c6).1 k4;exact ⟨fun e=>by rw [h.1 e],by have:=h.2;omega⟩
 simp only [zd c6];exact ⟨fun _=>(by first | rfl | trivial),by omega⟩
def Y2 (x:zh):Prop:=x.PC=3\/x.PC=4\/x.PC=5\/x.PC=6\/x.PC=8\/(x.PC=7/\x.Batch≠[])
theorem zwW {p:zc}(hp:zB p) {k:Nat}{s:za}{gh:Gh}(hk:k<4294960000) (I:SI p k s gh) {w:Int}(hw:1<=w/\w<=p.Workers) {x:zh}(hx:s.Ws[(w-1).toNat]? =some x) (N:NeW s x) (B:Y2 x) (h8:x.PC≠8) :
  Y2 (zi s w x).2/\wL p (zi s w x).1.M w 0 (zi s w x).2<wL p s.M w 0 x:=by
 obtain ⟨gh',I',hX,hst,eM,eT,eB,hFM⟩:=I.step2 hp hk hw hx;have G:=I.G;have ei:(((w-1).toNat:Nat):Int)+1=w:=by omega
 have O:=G.E.W _ x hx;have K:=G.W _ x hx;have S:=I.sl _ x hx;rw [ei] at O K;have hsl:=hp.slots;by_cases c56:x.PC=5\/x.PC=6
 .obtain ⟨h1,h2⟩:=zph (s:=s) (w:=w) c56;have e1:=zuJ (p:=p) (M:=s.M) (w:=w) (g:=0) (x:=x) (by omega);have e2:=zuJ (p:=p) (M:=(zi s w x).1.M) (w:=w) (g:=0) (x:=(zi s w x).2) (by omega);rw [h2] at e2;refine ⟨by unfold Y2;omega,?_⟩;rcases hst with h | h<;>omega
 by_cases c3:x.PC=3
 .have e:zi s w x=({s with Bins:=s.Bins.set x.Bin.toNat []},{x with Batch:=Xy s x.Bin,PC:=4,C:=Wf s.P (zO s.P) x.Bin}):=by
   unfold zi;rw [ze,ze,zb c3]
  rw [e];refine ⟨.inr (.inl rfl),?_⟩;unfold wL;dsimp only;rw [ze,ze,ze,zb rfl,ze,ze,zb c3];have:uK s.M (Wf s.P (zO s.P) x.Bin)=3:=rfl;omega
 by_cases c4:x.PC=4
 .have hne:=N.2 c4;have q:=K.p4 c4;have e:zi s w x=({s with M:=(zo s.M x.C).1},if (zo s.M x.C).2.Out=1 then {x with C:=(zo s.M x.C).2,Bin:=0,PC:=7} else {x with C:=(zo s.M x.C).2}):=by
   unfold zi;rw [ze,ze,ze,zb c4]
  have e0:wL p s.M w 0 x=42+uK s.M x.C:=by
   unfold wL;rw [ze,ze,ze,zb c4]
  have hr:=zsn (m:=s.M) q.2.1;rw [e] at hst ⊢;by_cases c:(zo s.M x.C).2.Out=1
  .rw [zb c];refine ⟨.inr (.inr (.inr (.inr (.inr ⟨rfl,hne⟩)))),?_⟩;rw [e0];unfold wL;dsimp only;rw [ze,ze,ze,ze,ze,ze,zb rfl,zb rfl];omega
  .rw [zd c] at hst ⊢;refine ⟨.inr (.inl c4),?_⟩;rcases hst with h | h
   .rw [e0];unfold v8 at h;dsimp only at h;rw [ze,ze,ze,zb c4,ze,ze,ze,zb c4] at h;unfold wL;dsimp only;rw [ze,ze,ze,zb c4];omega
   .have:=h.1;dsimp only at this;omega
 have c7:x.PC=7/\x.Batch≠[]:=by
  rcases B with h | h | h | h | h | h
  .exact zk h c3
  .exact zk h c4
  .exact zk (.inl h) c56
  .exact zk (.inr h) c56
  .exact zk h h8
  .exact h
 obtain ⟨c7,hne⟩:=c7;cases hb:x.Batch with
 | nil=>exact zk hb hne
 | cons o l =>
  have e:zi s w x=(s,{x with Batch:=l,PC:=5,Obj:=o,Slot:=0}):=by
   unfold zi;rw [ze,ze,ze,ze,ze,ze,zb c7,hb]
  rw [e];refine ⟨.inr (.inr (.inl rfl)),?_⟩;unfold wL;dsimp only;rw [ze,ze,ze,ze,zb rfl,ze,ze,ze,ze,ze,ze,zb c7,zb rfl];omega
theorem zvE {α β:Type}{f:α->List β}{l:List α}(h:(l.flatMap f).Nodup) {i j:Nat}(hij:j≠i) {x y:α}(hx:l[i]? =some x) (hy:l[j]? =some y) {a b:β}(ha:a∈f x) (hb:b∈f y):a≠b:=by
 obtain ⟨u,v,e,_,_,h4⟩:=zhc hx;rw [e] at h;have hn:=(uS (f:=f) (a:=u) (b:=v) (x:=x)).nodup_iff.1 h;have:=(zCe.1 hn).2.2 a ha b (zCc.2 ⟨y,h4 j y hij hy,hb⟩);exact this
theorem zxe (s:za) (w:Int) (x:zh):(zi s w x).1.Bins=s.Bins\/(x.PC=3/\(zi s w x).1.Bins=s.Bins.set x.Bin.toNat [])\/∃(b:Nat) (o:Int),(zi s w x).1.Bins=s.Bins.set b [o]:=by
 have hg:∀g,(zx s g).1.Bins=s.Bins\/∃(b:Nat) (o:Int),(zx s g).1.Bins=s.Bins.set b [o]:=fun g=>by
  unfold zx;split
  .exact .inl rfl
  split
  .exact .inl rfl
  split
  .exact .inr ⟨_,_,rfl⟩
  split
  .exact .inl rfl
  split
  .exact .inl rfl
  split
  .exact .inl rfl
  split
  .exact .inl rfl
  split
  .exact .inl rfl
  .exact .inl rfl
 unfold zi;by_cases c01:x.PC=0\/x.PC=1
 .rw [zb c01];exact .inl rfl
 rw [zd c01];by_cases c2:x.PC=2
 .rw [zb c2];exact .inl rfl
 rw [zd c2];by_cases c3:x.PC=3
 .rw [zb c3];exact .inr (.inl ⟨c3,rfl⟩)
 rw [zd c3];by_cases c4:x.PC=4
 .rw [zb c4];exact .inl rfl
 rw [zd c4];by_cases c5:x.PC=5
 .rw [zb c5];exact .inl rfl
 rw [zd c5];by_cases c6:x.PC=6
 .rw [zb c6];exact (hg x.G).imp id .inr
 rw [zd c6];by_cases c7:x.PC=7
 .rw [zb c7];exact .inl rfl
 rw [zd c7];by_cases c8:x.PC=8
 .rw [zb c8];exact .inl rfl
 rw [zd c8];by_cases c9:x.PC=9
 .rw [zb c9];exact .inl rfl
 rw [zd c9];exact .inl rfl
theorem zuU {s s':za}{b:Nat}{l:List Int}{y:Int}(e:s'.Bins=s.Bins.set b l) (h:xt s y≠[]) (hl:l≠[]\/y.toNat≠b):xt s' y≠[]:=by
 unfold xt at h ⊢;rw [e,zBZ];split
 .rename_i c;split
  .exact hl.resolve_right (fun q=>q c.symm)
  .rename_i c2;rw [<-c,zCj (by omega)] at h;exact zk rfl h
 .exact h
def NeS (s:za):Prop:=∀(i:Nat) x,s.Ws[i]? =some x->NeW s x
theorem NeS.step {p:zc}(hp:zB p) {k:Nat}{s:za}{gh:Gh}(hk:k<4294960000) (I:SI p k s gh) (N:NeS s) {w:Int}(hw:1<=w/\w<=p.Workers):NeS (zt s w):=by
 have G:=I.G;have hwl:=G.E.wl;have hi:(w-1).toNat<s.Ws.length:=by omega
 have hx:=zBn hi;generalize s.Ws[(w-1).toNat]=x at hx;have ei:(((w-1).toNat:Nat):Int)+1=w:=by omega
 have O:=G.E.W _ x hx;have K:=G.W _ x hx;rw [ei] at O K;have hpc:=O.pc;have eS:zt s w={(zi s w x).1 with Ws:=s.Ws.set (w-1).toNat (zi s w x).2}:=by
  unfold zt;rw [zd (by rw [I.d];rintro (e | e | e)<;>first | cases e | omega),hx]
 have eB:(zt s w).Bins=(zi s w x).1.Bins:=by rw [eS]
 have eW:(zt s w).Ws=s.Ws.set (w-1).toNat (zi s w x).2:=by rw [eS]
 have eA:∀b,xt (zt s w) b=xt (zi s w x).1 b:=fun b=>by unfold xt;rw [eB]
 have Nx:=N _ x hx;have own:NeW (zi s w x).1 (zi s w x).2:=by
  by_cases c2:x.PC<=2
  .obtain ⟨_,h3,⟨_,h5⟩,_⟩:=zrr hp hk G hw O K c2;exact ⟨h3,fun c=>by omega⟩
  by_cases c3:x.PC=3
  .have e:zi s w x=({s with Bins:=s.Bins.set x.Bin.toNat []},{x with Batch:=Xy s x.Bin,PC:=4,C:=Wf s.P (zO s.P) x.Bin}):=by
    unfold zi;rw [ze,ze,zb c3]
   rw [e];exact ⟨fun c=>(by cases c),fun _=>by rw [zku];exact Nx.1 c3⟩
  by_cases c4:x.PC=4
  .have e:zi s w x=({s with M:=(zo s.M x.C).1},if (zo s.M x.C).2.Out=1 then {x with C:=(zo s.M x.C).2,Bin:=0,PC:=7} else {x with C:=(zo s.M x.C).2}):=by
    unfold zi;rw [ze,ze,ze,zb c4]
   rw [e];dsimp only;split
   .exact ⟨fun c=>(by cases c),fun c=>(by cases c)⟩
   .exact ⟨fun c=>by have c:x.PC=3:=c;omega,fun _=>Nx.2 c4⟩
  have far:(zi s w x).2.PC≠3/\(zi s w x).2.PC≠4:=by
   by_cases c56:x.PC=5\/x.PC=6
   .have:=(zph (s:=s) (w:=w) c56).1;omega
   unfold zi;rw [ze,ze,zd c3,zd c4,ze,ze];split
   .dsimp only;split
    .exact ⟨by show (0:Int)≠3;decide,by show (0:Int)≠4;decide⟩
    .exact ⟨by show (5:Int)≠3;decide,by show (5:Int)≠4;decide⟩
   split
   .exact ⟨by show (9:Int)≠3;decide,by show (9:Int)≠4;decide⟩
   split
   .exact ⟨by show (7:Int)≠3;decide,by show (7:Int)≠4;decide⟩
   .exact ⟨c3,c4⟩
  exact ⟨fun c=>zk c far.1,fun c=>zk c far.2⟩
 intro i y hy;rw [eW,zBZ] at hy;split at hy
 .injection hy with hy;rw [<-hy];exact ⟨fun c=>by rw [eA];exact own.1 c,own.2⟩
 .rename_i hne;have Ny:=N i y hy;refine ⟨fun c=>?_,Ny.2⟩;rw [eA];have h0:=Ny.1 c;rcases zxe s w x with e | ⟨e3,e⟩ | ⟨b,o,e⟩
  .unfold xt;rw [e];exact h0
  .refine zuU e h0 (.inr ?_);have hnd:=(zCe.1 (zCe.1 G.X.L.nodup).2.1).1;have:=zvE hnd hne hy hx (a:=y.Bin) (b:=x.Bin) (by rw [zbO (.inl c)];exact zCb.2 rfl) (by rw [zbO (.inl e3)];exact zCb.2 rfl);have h1:=(G.E.W _ y hy).b3 c;have h2:=O.b3 e3;omega
  .exact zuU e h0 (.inl (by simp))
def TB (p:zc) (s:za):Nat:=(s.Ws.map (Bud p.H.Slots)).sum
def Mu (p:zc) (s:za) (w:Int) (x:zh):Nat:=wL p s.M w 0 x+3*TB p s
theorem zyF {α:Type}{f:α->Nat}{l:List α}{i:Nat}{x:α}(h:l[i]? =some x) (y:α):((l.set i y).map f).sum+f x=(l.map f).sum+f y:=by
 obtain ⟨a,b,e,e2,_,_⟩:=zhc h;rw [e2 y,e];simp only [List.map_append,zCo,List.sum_append,zCn];omega
theorem zfP {s:za}(hd:s.Done=false) {v:Int}(hv:1<=v/\v<=(s.Ws.length:Int)) {y:zh}(hy:s.Ws[(v-1).toNat]? =some y):zt s v={(zi s v y).1 with Ws:=s.Ws.set (v-1).toNat (zi s v y).2}:=by
 unfold zt;rw [zd (by rw [hd];rintro (e | e | e)<;>first | cases e | omega),hy]
theorem zwM {p:zc}(hp:zB p) {nb k:Nat}{s:za}{gh:Gh}(G:FG p nb k s gh) {v:Int}{y:zh}(hy:s.Ws[(v-1).toNat]? =some y) (h8:y.PC=8):nbk (zi s v y).1.T+1<=nbk s.T:=by
 have hg:yT s.T y.Obj=1:=(G.B.gr _).1 (zc4 hy (zaE (.inr (.inr h8))));have hN:=G.E.H.n;have hn:=hp.n;have hmo:=hp.most;have t:=(vu _ _).1 hg;have hm:=G.mrk _ t.1;have hr:=Xv hg;refine zyc (o:=y.Obj) (by omega) t.2 ?_;rw [zuI s v h8];unfold xP;rw [zb hg]
theorem zzv {p:zc}(hp:zB p) {k:Nat}{s:za}{gh:Gh}(hk:k<4294960000) (I:SI p k s gh) (N:NeS s) {w:Int}(hw:1<=w/\w<=p.Workers) {x:zh}(hx:s.Ws[(w-1).toNat]? =some x) (B:Y2 x) {v:Int}(hv:1<=v/\v<=p.Workers) :
  nbk (zt s v).T+1<=nbk s.T\/∃x',(zt s v).Ws[(w-1).toNat]? =some x'/\Y2 x'/\Mu p (zt s v) w x'<=Mu p s w x/\(v=w->Mu p (zt s v) w x'<Mu p s w x):=by
 have G:=I.G;have hwl:=G.E.wl;have hi:(v-1).toNat<s.Ws.length:=by omega
 have hy:=zBn hi;generalize s.Ws[(v-1).toNat]=y at hy;have ei:(((v-1).toNat:Nat):Int)+1=v:=by omega
 have ew:(((w-1).toNat:Nat):Int)+1=w:=by omega
 have Ov:=G.E.W _ y hy;have Kv:=G.W _ y hy;rw [ei] at Ov Kv;have eS:=zfP I.d (by omega) hy;have eM:(zt s v).M=(zi s v y).1.M:=by rw [eS]
 have eT:(zt s v).T=(zi s v y).1.T:=by rw [eS]
 have eW:(zt s v).Ws=s.Ws.set (v-1).toNat (zi s v y).2:=by rw [eS]
 by_cases h8:y.PC=8
 .left;rw [eT];exact zwM hp G hy h8
 right;have hnb:=G.X.S.nbk;obtain ⟨b1,b2⟩:=zxV hp hnb.2 hk G hv Ov Kv (I.sl _ y hy) (N _ y hy) h8;have hs:=zyF (f:=Bud p.H.Slots) hy (zi s v y).2;have eTB:TB p (zt s v)+Bud p.H.Slots y=TB p s+Bud p.H.Slots (zi s v y).2:=by unfold TB;rw [eW];exact hs
 by_cases e:v=w
 .subst e;have hxy:y=x:=by rw [hx] at hy;injection hy with hy;exact hy.symm
  subst hxy;obtain ⟨c1,c2⟩:=zwW hp hk I hv hy (N _ y hy) B h8;refine ⟨_,by rw [eW];exact zB3 hi,c1,?_,fun _=>?_⟩
  .unfold Mu;rw [eM];omega
  .unfold Mu;rw [eM];omega
 .have hne:(v-1).toNat≠(w-1).toNat:=by omega
  have Ow:=G.E.W _ x hx;have Kw:=G.W _ x hx;rw [ew] at Ow Kw;have hwL:=zyk (m':=(zi s v y).1.M) (g:=0) Ow Kw;refine ⟨x,by rw [eW,zBI hne];exact hx,B,?_,fun q=>zk q e⟩;unfold Mu;rw [eM];rcases b2 with b2 | b2
  .rw [hwL.1 b2];omega
  .have:=hwL.2;omega
def goW (s:za) (l:List Int):za:=l.foldl zt s
def Hot (p:zc) (s:za) (n:Nat):Prop:=∃(w:Int) (x:zh),(1<=w/\w<=p.Workers)/\s.Ws[(w-1).toNat]? =some x/\Y2 x/\Mu p s w x<=n
structure WI (p:zc) (k:Nat) (s:za):Prop where
 I:∃gh,SI p k s gh
 N:NeS s
theorem WI.step {p:zc}(hp:zB p) {k:Nat}{s:za}(hk:k<4294960000) (Z:WI p k s) {v:Int}(hv:1<=v/\v<=p.Workers):WI p (k+1) (zt s v)/\nbk (zt s v).T<=nbk s.T:=by
 obtain ⟨gh,I⟩:=Z.I;have hwl:=I.G.E.wl;have hi:(v-1).toNat<s.Ws.length:=by omega
 obtain ⟨gh',I',_,_,_,_,_,hF⟩:=I.step2 hp hk hv (zBn hi);exact ⟨⟨⟨gh',I'⟩,Z.N.step hp hk I hv⟩,zx3 hF.black⟩
theorem WI.go {p:zc}(hp:zB p):∀(l:List Int) {k:Nat}{s:za},(∀v∈l,1<=v/\v<=p.Workers)->k+l.length<4294960000->WI p k s->WI p (k+l.length) (goW s l)/\nbk (goW s l).T<=nbk s.T
 | [],k,s,_,_,Z=>⟨Z,zBm _⟩
 | v::l,k,s,hl,hk,Z=>by
  rw [zBv] at hk ⊢;obtain ⟨Z1,h1⟩:=Z.step hp (by omega) (hl v (zBx ..));obtain ⟨Z2,h2⟩:=WI.go hp l (fun u hu=>hl u (zBr _ hu)) (by omega) Z1;rw [show k+1+l.length=k+(l.length+1) by omega] at Z2;exact ⟨Z2,zCf h2 h1⟩
theorem zsy {p:zc}(hp:zB p) {w:Int}(hw:1<=w/\w<=p.Workers):∀(l:List Int) {k:Nat}{s:za}{x:zh},(∀v∈l,1<=v/\v<=p.Workers)->k+l.length<4294960000->WI p k s->s.Ws[(w-1).toNat]? =some x->Y2 x ->
  nbk (goW s l).T+1<=nbk s.T\/∃x',(goW s l).Ws[(w-1).toNat]? =some x'/\Y2 x'/\Mu p (goW s l) w x'<=Mu p s w x/\(w∈l->Mu p (goW s l) w x'<Mu p s w x)
 | [],k,s,x,_,_,Z,hx,B=>.inr ⟨x,hx,B,zBm _,fun h=>(by cases h)⟩
 | v::l,k,s,x,hl,hk,Z,hx,B=>by
  rw [zBv] at hk;have hv:=hl v (zBx ..);have hl':∀u∈l,1<=u/\u<=p.Workers:=fun u hu=>hl u (zBr _ hu);obtain ⟨Z1,h1⟩:=Z.step hp (by omega) hv;obtain ⟨Z2,h2⟩:=WI.go hp l hl' (by omega) Z1;obtain ⟨gh,I⟩:=Z.I;rcases zzv hp (by omega) I Z.N hw hx B hv with h | ⟨x1,hx1,B1,m1,m2⟩
  .left;show nbk (goW (zt s v) l).T+1<=_;omega
  .rcases zsy hp hw l hl' (by omega) Z1 hx1 B1 with h | ⟨x2,hx2,B2,m3,m4⟩
   .left;show nbk (goW (zt s v) l).T+1<=_;omega
   .refine .inr ⟨x2,hx2,B2,by show Mu p (goW (zt s v) l) w x2<=_;omega,fun hmem=>?_⟩;show Mu p (goW (zt s v) l) w x2<_;rcases zBG.1 hmem with e | e
    .have:=m2 e.symm;omega
    .have:=m4 e;omega
theorem zrp {p:zc}(hp:zB p) {l:List Int}(hl:∀v∈l,1<=v/\v<=p.Workers) (hall:∀w,1<=w->w<=p.Workers->w∈l) {k:Nat}{s:za}(hk:k+l.length<4294960000) (Z:WI p k s) {n:Nat}(H:Hot p s (n+1)) :
  nbk (goW s l).T+1<=nbk s.T\/Hot p (goW s l) n:=by
 obtain ⟨w,x,hw,hx,B,hm⟩:=H;rcases zsy hp hw l hl hk Z hx B with h | ⟨x',hx',B',_,m⟩
 .exact .inl h
 .have:=m (hall w hw.1 hw.2);exact .inr ⟨w,x',hw,hx',B',by omega⟩
def xF (l:List Int):Nat->za->za
 | 0,s=>s
 | n+1,s=>xF l n (goW s l)
theorem WI.rounds {p:zc}(hp:zB p) {l:List Int}(hl:∀v∈l,1<=v/\v<=p.Workers) (hlen:l.length<=3):∀(n:Nat) {k:Nat}{s:za},k+3*n<4294960000->WI p k s->∃k',k'<=k+3*n/\WI p k' (xF l n s)/\nbk (xF l n s).T<=nbk s.T
 | 0,k,s,_,Z=>⟨k,by omega,Z,zBm _⟩
 | n+1,k,s,hk,Z=>by
  obtain ⟨Z1,h1⟩:=WI.go hp l hl (by omega) Z;obtain ⟨k',h2,Z2,h3⟩:=WI.rounds hp hl hlen n (k:=k+l.length) (by omega) Z1;exact ⟨k',by omega,Z2,zCf h3 h1⟩
theorem zog {p:zc}(hp:zB p) {l:List Int}(hl:∀v∈l,1<=v/\v<=p.Workers) (hlen:l.length<=3) (hall:∀w,1<=w->w<=p.Workers->w∈l):∀(n:Nat) {k:Nat}{s:za},k+3*n+3<4294960000->WI p k s->Hot p s n->nbk (xF l (n+1) s).T+1<=nbk s.T
 | 0,k,s,hk,Z,H=>by
  have hH:Hot p s (0+1):=by obtain ⟨w,x,a,b,c,d⟩:=H;exact ⟨w,x,a,b,c,by omega⟩
  rcases zrp hp hl hall (by omega) Z hH with h | ⟨w,x,hw,hx,B,hm⟩
  .exact h
  .exfalso;unfold Mu at hm;unfold wL at hm;obtain ⟨Z1,_⟩:=WI.go hp l hl (by omega) Z;rcases B with c | c | c | c | c | ⟨c,_⟩
   .rw [ze,ze,zb c] at hm;omega
   .rw [ze,ze,ze,zb c] at hm;omega
   .rw [ze,ze,ze,ze,zb c] at hm;omega
   .rw [ze,ze,ze,ze,ze,zb c] at hm;omega
   .rw [ze,ze,ze,ze,ze,ze,ze,zb c] at hm;omega
   .rw [ze,ze,ze,ze,ze,ze,zb c,zb rfl] at hm;omega
 | n+1,k,s,hk,Z,H=>by
  obtain ⟨Z1,h1⟩:=WI.go hp l hl (by omega) Z;have mono:=WI.rounds hp hl hlen (n+1) (k:=k+l.length) (by omega) Z1;obtain ⟨_,_,_,h2⟩:=mono;rcases zrp hp hl hall (by omega) Z H with h | h
  .show nbk (xF l (n+1) (goW s l)).T+1<=_;omega
  .have:=zog hp hl hlen hall n (k:=k+l.length) (by omega) Z1 h;show nbk (xF l (n+1) (goW s l)).T+1<=_;omega
def NB (s:za):Prop:=∀(i:Nat) x,s.Ws[i]? =some x->¬Y2 x
def zsm (d:zm):Prop:=(d.PC=3/\d.T≠d.B-1#64)\/d.PC=6
theorem zij {m:List (BitVec 64)}{d:zm}:Yk m d≠[]↔zsm d:=by
 unfold Yk zsm;constructor
 .intro h;split at h
  .rename_i c;exact .inl c
  .split at h
   .rename_i c;exact .inr c
   .exact zk rfl h
 .rintro (h | h)
  .rw [zb h];simp
  .rw [zd (fun e=>by omega),zb h];simp
def Has (p:zc) (M:List (BitVec 64)) (w:Int) (x:zh):Prop :=
 ∃(t:Nat) (l:List Int) (c:Nat),DQ p M w t l c/\(x.PC≠0->c=0)/\(x.PC=0->PK p M w t l c x.D)/\(l≠[]\/(x.PC=0/\zsm x.D))
theorem zx7 {p:zc}{M:List (BitVec 64)}{w:Int}{t:Nat}{l:List Int}:PK p M w t l 0 ⟨2,0,zZ p w,p.Cap,0#64,0#64,0,0⟩:=by
 refine ⟨rfl,rfl,rfl,rfl,⟨by show (0:Int)<=0;decide,by show (0:Int)<=6;decide⟩,fun _=>rfl,?_,?_,?_,?_,?_,?_,?_,?_⟩
 all_goals (intro e;dsimp only at e;first | omega | (exact zk e (by decide)) | skip)
 all_goals (try (intro e2;dsimp only at e;omega))
theorem Has.keep {p:zc}(hp:zB p) {M M':List (BitVec 64)}{w:Int}{x:zh}(H:Has p M w x) (hm:∀a,zZ p w<=a->a<zZ p w+p.Cap+2->ld M' a=ld M a):Has p M' w x:=by
 obtain ⟨t,l,c,D,h1,h2,h3⟩:=H;exact ⟨t,l,c,D.keep hp hm,h1,fun e=>(h2 e).keep,h3⟩
theorem Has.begin {p:zc}{M:List (BitVec 64)}{w:Int}{x:zh}(H:Has p M w x) (h:x.PC≠0):Has p M w (Z5 p w x):=by
 obtain ⟨t,l,c,D,h1,h2,h3⟩:=H;have hc:=h1 h;subst hc;exact ⟨t,l,0,D,fun e=>zk rfl e,fun _=>zx7,.inl (h3.resolve_right (fun e=>h e.1))⟩
theorem Has.other {p:zc}{M:List (BitVec 64)}{w:Int}{x y:zh}(H:Has p M w x) (h:x.PC≠0) (h':y.PC≠0):Has p M w y:=by
 obtain ⟨t,l,c,D,h1,h2,h3⟩:=H;exact ⟨t,l,c,D,fun _=>h1 h,fun e=>zk e h',.inl (h3.resolve_right (fun e=>h e.1))⟩
theorem zpm {p:zc}(hp:zB p) {nb k:Nat}{s:za}{gh:Gh}{v:Int}{y:zh}(G:FG p nb k s gh) (hv:1<=v/\v<=p.Workers) (O:WOk p nb v y) (K:WX p s gh v y) (hb: ¬Y2 y) (hb': ¬Y2 (zi s v y).2) :
  (∀a,(a<zZ p v\/zZ p v+p.Cap+2<=a)->ld (zi s v y).1.M a=ld s.M a)/\(y.PC≠0->∀a,ld (zi s v y).1.M a=ld s.M a):=by
 have hpc:=O.pc;have hlen:yb p<=s.M.length:=by have:=G.X.L.len;have:=vi hp;have:=xB hp;omega
 have hc:=hp.cap;have same:(zi s v y).1.M=s.M->(∀a,(a<zZ p v\/zZ p v+p.Cap+2<=a)->ld (zi s v y).1.M a=ld s.M a)/\(y.PC≠0->∀a,ld (zi s v y).1.M a=ld s.M a):=fun e=>by
  rw [e];exact ⟨fun _ _=>rfl,fun _ _=>rfl⟩
 have all:(∀a,ld (zi s v y).1.M a=ld s.M a)->(∀a,(a<zZ p v\/zZ p v+p.Cap+2<=a)->ld (zi s v y).1.M a=ld s.M a)/\(y.PC≠0->∀a,ld (zi s v y).1.M a=ld s.M a):=fun e=>⟨fun a _=>e a,fun _=>e⟩
 by_cases c0:y.PC=0
 .have eM:(zi s v y).1.M=(zT s.M y.D).1:=by unfold zi;rw [zb (.inl c0)]
  obtain ⟨_,_,_,_,a,_⟩:=zcy hp hv hlen (G.X.D v hv.1 hv.2) (K.p0 c0);refine ⟨fun b hb=>?_,fun e=>zk c0 e⟩;rw [eM];exact a b (by omega) (by omega)
 by_cases c1:y.PC=1
 .have eM:(zi s v y).1.M=(zT s.M y.D).1:=by unfold zi;rw [zb (.inr c1)]
  have hvic:=O.vic;rcases zkf hp hvic hlen (G.X.D _ hvic.1 hvic.2) (K.p1 c1) with ⟨e,_⟩ | ⟨_,_,_,e,_⟩
  .exact same (eM.trans e)
  .exfalso;refine hb' (.inr (.inr (.inl ?_)));unfold zi;rw [zb (.inr c1)];dsimp only;rw [zb e]
 by_cases c2:y.PC=2
 .have eM:(zi s v y).1.M=(zo s.M y.C).1:=by unfold zi;rw [ze,zb c2]
  rcases zhs (m:=s.M) (c:=y.C) with e | e
  .exfalso;refine hb' (.inl ?_);unfold zi;rw [ze,zb c2];dsimp only;rw [zb e]
  .refine all (fun a=>?_);rw [eM];exact e a (.inr (O.c2 c2).k)
 have c79:y.PC=7\/y.PC=9:=by unfold Y2 at hb;omega
 refine same ?_;unfold zi;rw [ze,ze,ze,ze,ze,ze];rcases c79 with c | c
 .rw [zb c]
 .rw [ze,ze,zb c]
def pm (p:zc) (M:List (BitVec 64)) (w:Int) (x:zh):Nat:=if x.PC=9 then 61 else if x.PC=7 then 60 else if x.PC=0 then (8-x.D.PC).toNat else 8+(v8 p M w x-370)
def cm (p:zc) (M:List (BitVec 64)) (w:Int) (x:zh):Nat:=if x.PC=9 then 61 else if x.PC=7 then 60 else v8 p M w x-370
def zht (p:zc) (M:List (BitVec 64)) (w:Int) (x:zh) (n:Nat):Prop :=
 (x.PC=9/\x.Batch≠[]/\1<=n)\/(Has p M w x/\pm p M w x<=n)\/(yH (ld M (yb p))≠0/\cm p M w x<=n)
theorem zpQ {x:zh}(hpc:0<=x.PC/\x.PC<=9) (h: ¬Y2 x):x.PC=0\/x.PC=1\/x.PC=2\/(x.PC=7/\x.Batch=[])\/x.PC=9:=by
 by_cases hb:x.Batch=[]
 .have: ¬(x.PC=3\/x.PC=4\/x.PC=5\/x.PC=6\/x.PC=8):=fun e=>h (by unfold Y2;omega);have h7:x.PC=0\/x.PC=1\/x.PC=2\/x.PC=7\/x.PC=9:=by omega
  rcases h7 with e | e | e | e | e
  .exact .inl e
  .exact .inr (.inl e)
  .exact .inr (.inr (.inl e))
  .exact .inr (.inr (.inr (.inl ⟨e,hb⟩)))
  .exact .inr (.inr (.inr (.inr e)))
 .have h7:x.PC≠7:=fun e=>h (.inr (.inr (.inr (.inr (.inr ⟨e,hb⟩)))));have: ¬(x.PC=3\/x.PC=4\/x.PC=5\/x.PC=6\/x.PC=8):=fun e=>h (by unfold Y2;omega);have:x.PC=0\/x.PC=1\/x.PC=2\/x.PC=9:=by omega
  rcases this with e | e | e | e
  .exact .inl e
  .exact .inr (.inl e)
  .exact .inr (.inr (.inl e))
  .exact .inr (.inr (.inr (.inr e)))
theorem ztI {p:zc}{M:List (BitVec 64)}{w:Int}{x:zh}(h:x.PC=0\/x.PC=1\/(x.PC=2/\0<=x.C.PC/\x.C.PC<=2)):371<=v8 p M w x:=by
 unfold v8;rcases h with e | e | ⟨e,hc⟩
 .rw [zb (.inl e)];omega
 .rw [zb (.inr e)];omega
 .rw [ze,zb e];omega
theorem zxS {p:zc}{M:List (BitVec 64)}{w:Int}{x:zh}(hp:zB p) (hw:1<=w/\w<=p.Workers):v8 p M w (Z5 p w x)<=418:=by
 have hk:=hp.wk;have hv:=zp9 hw hw;unfold v8;rw [zb (.inl rfl)];show 380+10*zfj p.Workers w w+(8-0:Int).toNat<=418;omega
theorem zxN {p:zc}(hp:zB p) {k:Nat}{s:za}{gh:Gh}(hk:k<4294960000) (I:SI p k s gh) (N:NeS s) {w:Int}(hw:1<=w/\w<=p.Workers) {x:zh}(hx:s.Ws[(w-1).toNat]? =some x) (hb: ¬Y2 x) {n:Nat}(C:zht p s.M w x n) :
  Y2 (zi s w x).2\/∃m,m<n/\zht p (zi s w x).1.M w (zi s w x).2 m:=by
 obtain ⟨gh',I',hX,hst,eM,eT,eB,hFM⟩:=I.step2 hp hk hw hx;have G:=I.G;have ei:(((w-1).toNat:Nat):Int)+1=w:=by omega
 have O:=G.E.W _ x hx;have K:=G.W _ x hx;have O':=I'.G.E.W _ _ hX;have K':=I'.G.W _ _ hX;rw [ei] at O K O' K';have hP:=G.E.S.P;have hpc:=O.pc;have hlen:yb p<=s.M.length:=by have:=G.X.L.len;have:=vi hp;have:=xB hp;omega
 by_cases hb':Y2 (zi s w x).2
 .exact .inl hb'
 right;have hcells:=zpm hp G hw O K hb hb';rcases zpQ hpc hb with c0 | c1 | c2 | ⟨c7,hbt⟩ | c9;rotate_left 3
 .have e:zi s w x=(s,Z5 s.P w x):=by
   unfold zi;rw [ze,ze,ze,ze,ze,ze,zb c7,hbt]
  rw [e,hP];have hwn:=zxS (M:=s.M) (x:=x) hp hw;rcases C with ⟨c,_⟩ | ⟨H,hm⟩ | ⟨F,hm⟩
  .omega
  .refine ⟨8,?_,.inr (.inl ⟨H.begin (by omega),?_⟩)⟩
   .unfold pm at hm;rw [ze,zb c7] at hm;omega
   .exact zBm _
  .refine ⟨48,?_,.inr (.inr ⟨F,?_⟩)⟩
   .unfold cm at hm;rw [ze,zb c7] at hm;omega
   .show v8 p s.M w (Z5 p w x)-370<=48;omega
 .have e:zi s w x=({s with Work:=wc (s.Work-1)},{x with Obj:=0,PC:=7}):=by
   unfold zi;rw [ze,ze,ze,ze,ze,ze,ze,ze,zb c9]
  rw [e] at hb' ⊢;have hbt:x.Batch=[]:=Decidable.byContradiction fun q=>hb' (.inr (.inr (.inr (.inr (.inr ⟨rfl,q⟩)))));rcases C with ⟨_,c,_⟩ | ⟨H,hm⟩ | ⟨F,hm⟩
  .exact zk hbt c
  .refine ⟨60,?_,.inr (.inl ⟨H.other (by omega) (by show (7:Int)≠0;decide),zBm _⟩)⟩;unfold pm at hm;rw [zb c9] at hm;omega
  .refine ⟨60,?_,.inr (.inr ⟨F,zBm _⟩)⟩;unfold cm at hm;rw [zb c9] at hm;omega
 all_goals
  have hle:x.PC<=2:=by omega
  obtain ⟨_,_,⟨f1,f2⟩,f3⟩:=zrr hp hk G hw O K hle;have hpc':(zi s w x).2.PC=0\/(zi s w x).2.PC=1\/(zi s w x).2.PC=2:=by
   have: ¬((zi s w x).2.PC=3\/(zi s w x).2.PC=5):=fun e=>hb' (by unfold Y2;omega);omega
  have hlow:371<=v8 p s.M w x:=ztI (by
   first
    | exact .inl c0
    | exact .inr (.inl c1)
    | exact .inr (.inr ⟨c2,(K.p2 c2).2.1⟩))
  have hlow':371<=v8 p (zi s w x).1.M w (zi s w x).2:=ztI (by
   rcases hpc' with e | e | e
   .exact .inl e
   .exact .inr (.inl e)
   .exact .inr (.inr ⟨e,(K'.p2 e).2.1⟩))
  have hheads:HdS p s.M (zi s w x).1.M:=by
   have hf:=vi hp;have he:=xB hp;have hd:=uC hp hw.1 hw.2;exact ⟨hcells.1 _ (.inr (by omega)),hcells.1 _ (.inr (by omega))⟩
  rcases C with ⟨c,_⟩ | ⟨H,hm⟩ | ⟨F,hm⟩
  .omega
  rotate_left
  .have hno: ¬((zi s w x).2.PC=0/\(zi s w x).2.D.PC=0/\(zi s w x).2.Victim=w):=by
    rintro ⟨a,b,_⟩;by_cases hle1:x.PC<=1
    .exact f3 hle1 a b
    .have c2':x.PC=2:=by omega
     have q:=K.p2 c2';have e:(zi s w x).2=if (zo s.M x.C).2.Out=1 then {x with C:=(zo s.M x.C).2,Bin:=(zo s.M x.C).2.X,PC:=3} else if (zo s.M x.C).2.Out=2 then Z5 s.P w {x with C:=(zo s.M x.C).2} else {x with C:=(zo s.M x.C).2}:=by
      unfold zi;rw [ze,zb c2']
     have ho:(zo s.M x.C).2.Out≠2:=by
      unfold zo;rw [zd (by have:=(O.c2 c2').k;omega)];split
      .rw [zd (fun q=>by rw [(O.c2 c2').h] at q;exact F q.2)];show x.C.Out≠2;omega
      split
      .split
       .show x.C.Out≠2;omega
       .show x.C.Out≠2;omega
      .dsimp only
       repeat' split
       all_goals first
        | (show (1:Int)≠2;decide)
        | (show x.C.Out≠2;omega)
     rw [e] at a;rw [zd ho] at a;split at a
     .have a:(3:Int)=0:=a;omega
     .have a:x.PC=0:=a;omega
   have hlt:=hst.resolve_right hno;refine ⟨cm p (zi s w x).1.M w (zi s w x).2,?_,.inr (.inr ⟨by rw [hheads.1];exact F,zBm _⟩)⟩;unfold cm at hm ⊢;rw [ze,ze] at hm ⊢;omega
 .obtain ⟨t,l,c,D,h1,h2,h3⟩:=H;obtain ⟨t',l',c',D',_,_,_,r⟩:=zcy hp hw hlen D (h2 c0);have e:zi s w x=({s with M:=(zT s.M x.D).1},if (zT s.M x.D).2.Out=1 then {x with D:=(zT s.M x.D).2,Victim:=w,PC:=5,Obj:=(zT s.M x.D).2.X,Slot:=0} else if (zT s.M x.D).2.Out=2\/(zT s.M x.D).2.Out=4 then vh s.P w {x with D:=(zT s.M x.D).2} else {x with D:=(zT s.M x.D).2}):=by
   unfold zi;rw [zb (.inl c0)]
  have hq:=zvT (m:=s.M) (h2 c0).out (.inl ⟨(h2 c0).kind,(h2 c0).pc⟩);rcases r with ⟨o,pk,pr⟩ | ⟨o,_⟩ | ⟨_,_,_,e1,e2⟩
  .rw [e,ze,ze];refine ⟨(8-(zT s.M x.D).2.PC).toNat,?_,.inr (.inl ⟨⟨t',l',c',D',fun q=>zk c0 q,fun _=>pk,?_⟩,?_⟩)⟩
   .unfold pm at hm;rw [ze,ze,zb c0] at hm;have:=(h2 c0).pc;omega
   .by_cases hl:l'=[]
    .refine .inr ⟨c0,(zij (m:=(zT s.M x.D).1)).1 (fun q=>?_)⟩;rw [hl,q] at pr;have hnil:l++Yk s.M x.D=[]:=List.nil_perm.1 pr;rw [List.append_eq_nil_iff] at hnil;rcases h3 with h3 | ⟨_,h3⟩
     .exact h3 hnil.1
     .exact zij.2 h3 hnil.2
    .exact .inl hl
   .unfold pm;dsimp only;rw [ze,ze,zb c0];exact zBm _
  .exfalso;refine hb' ?_;rw [e,zb o];exact .inr (.inr (.inl rfl))
  .exfalso;rcases h3 with h3 | ⟨_,h3⟩
   .exact h3 e1
   .exact zij.2 h3 e2
 all_goals
  have hne:x.PC≠0:=by omega
  have H':Has p (zi s w x).1.M w x:=H.keep hp (fun a _ _=>hcells.2 hne a);unfold pm at hm;rw [ze,ze,zd hne] at hm;by_cases z:(zi s w x).2.PC=0;rotate_left
  .have hlt:=hst.resolve_right (fun q=>z q.1);refine ⟨8+(v8 p (zi s w x).1.M w (zi s w x).2-370),by omega,.inr (.inl ⟨H'.other hne z,?_⟩)⟩;unfold pm;rw [ze,ze,zd z];exact zBm _
 .exfalso;have e:(zi s w x).2=if (zT s.M x.D).2.Out=1 then {x with D:=(zT s.M x.D).2,Victim:=w,PC:=5,Obj:=(zT s.M x.D).2.X,Slot:=0} else if (zT s.M x.D).2.Out=2\/(zT s.M x.D).2.Out=4 then vh s.P w {x with D:=(zT s.M x.D).2} else {x with D:=(zT s.M x.D).2}:=by
   unfold zi;rw [zb (.inr c1)]
  rw [e] at z;split at z
  .have z:(5:Int)=0:=z;omega
  split at z
  .exact zzM _ _ _ z
  .have z:x.PC=0:=z;omega
 .have e:(zi s w x).2=if (zo s.M x.C).2.Out=1 then {x with C:=(zo s.M x.C).2,Bin:=(zo s.M x.C).2.X,PC:=3} else if (zo s.M x.C).2.Out=2 then Z5 s.P w {x with C:=(zo s.M x.C).2} else {x with C:=(zo s.M x.C).2}:=by
   unfold zi;rw [ze,zb c2]
  refine ⟨8,by omega,.inr (.inl ⟨?_,?_⟩)⟩
  .rw [e] at z ⊢;split at z
   .have z:(3:Int)=0:=z;omega
   rename_i g1;split at z
   .rename_i g2;rw [zd g1,zb g2,hP];have H2:Has p (zi s w x).1.M w {x with C:=(zo s.M x.C).2}:=H'.other hne hne;exact H2.begin hne
   .have z:x.PC=0:=z;omega
  .unfold pm;rw [ze,ze,zb z];have:=(K'.p0 z).pc;omega
theorem zvO {p:zc}(hp:zB p) {nb k:Nat}{s:za}{gh:Gh}(G:FG p nb k s gh) {w v:Int}(hw:1<=w/\w<=p.Workers) (hv:1<=v/\v<=p.Workers) (hne:v≠w) {x y:zh}(Ow:WOk p nb w x) (Kw:WX p s gh w x) (Ov:WOk p nb v y) (Kv:WX p s gh v y) (hx: ¬Y2 x) (hy: ¬Y2 y) (hy': ¬Y2 (zi s v y).2) {n:Nat}(C:zht p s.M w x n) :
  zht p (zi s v y).1.M w x n:=by
 obtain ⟨h1,_⟩:=zpm hp G hv Ov Kv hy hy';have hf:=vi hp;have he:=xB hp;have hd:=uC hp hv.1 hv.2;have hap:=zna hp hv hw hne;have hh:HdS p s.M (zi s v y).1.M:=⟨h1 _ (.inr (by omega)),h1 _ (.inr (by omega))⟩
 have hr:v8 p (zi s v y).1.M w x=v8 p s.M w x:=by
  unfold v8;rcases zpQ Ow.pc hx with c | c | c | ⟨c,_⟩ | c
  .simp only [c];simp
  .simp only [c];simp
  .have h:=(zcR (p:=p) (m:=s.M) (m':=(zi s v y).1.M) (c:=x.C) (Kw.p2 c).2.1 (.inl (Ow.c2 c).h)).1 hh;simp only [c];simp [h]
  .simp only [c];simp
  .simp only [c];simp
 rcases C with c | ⟨H,hm⟩ | ⟨F,hm⟩
 .exact .inl c
 .refine .inr (.inl ⟨H.keep hp (fun a a1 a2=>h1 a (by omega)),?_⟩);unfold pm at hm ⊢;rw [hr];exact hm
 .refine .inr (.inr ⟨by rw [hh.1];exact F,?_⟩);unfold cm at hm ⊢;rw [hr];exact hm
theorem zzw {p:zc}(hp:zB p) {k:Nat}{s:za}{gh:Gh}(I:SI p k s gh) {w:Int}(hw:1<=w/\w<=p.Workers) {x:zh}(hx:s.Ws[(w-1).toNat]? =some x) (B:Y2 x):Mu p s w x<=104:=by
 have G:=I.G;have ei:(((w-1).toNat:Nat):Int)+1=w:=by omega
 have O:=G.E.W _ x hx;have K:=G.W _ x hx;have S:=I.sl _ x hx;rw [ei] at O K;have hsl:=hp.slots;have hwk:=hp.wk;have hwl:=G.E.wl;have hT:∀l:List zh,(∀y∈l,Bud p.H.Slots y<=6)->(l.map (Bud p.H.Slots)).sum<=6*l.length:=by
  intro l
  induction l with
  | nil=>intro _;simp
  | cons y l ih =>
   intro h;have a:=ih (fun z hz=>h z (zBr _ hz));have b:=h y (zBx ..);simp only [zCo,zCn,zBv];omega
 have hB:TB p s<=6*s.Ws.length:=hT _ (fun y hy=>by
  obtain ⟨i,hi⟩:=zCm.1 hy;have Sy:=I.sl i y hi;unfold Bud;by_cases c8:y.PC=8
  .rw [zb c8];omega
  rw [zd c8];by_cases c6:y.PC=6
  .rw [zb c6];have:=Sy.2.1 c6;have:bG y.G<=2:=by unfold bG;split<;>(try split)<;>omega
   omega
  rw [zd c6];by_cases c5:y.PC=5
  .rw [zb c5];have:=Sy.1 c5;omega
  rw [zd c5];by_cases c7:y.PC=7
  .rw [zb c7];split<;>omega
  rw [zd c7];split<;>omega)
 have hL:wL p s.M w 0 x<=50:=by
  unfold wL;rcases B with c | c | c | c | c | ⟨c,_⟩
  .rw [ze,ze,zb c];exact zBm _
  .have:=zjE s.M (c:=x.C) (by have:=(K.p4 c).2.1;omega);rw [ze,ze,ze,zb c];omega
  .have:=S.1 c;rw [ze,ze,ze,ze,zb c];omega
  .have:=S.2.1 c;have:=zuB (K.p6 c).1 (K.p6 c).2.2.2;rw [ze,ze,ze,ze,ze,zb c];omega
  .rw [ze,ze,ze,ze,ze,ze,ze,zb c];omega
  .rw [ze,ze,ze,ze,ze,ze,zb c,zb rfl];omega
 unfold Mu;omega
theorem zsq {p:zc}(hp:zB p) {k:Nat}{s:za}(Z:WI p k s) (h: ¬NB s):Hot p s 104:=by
 obtain ⟨gh,I⟩:=Z.I;have hwl:=I.G.E.wl;have:∃(i:Nat) (x:zh),s.Ws[i]? =some x/\Y2 x:=Classical.byContradiction fun q=>h (fun i x hx hb=>q ⟨i,x,hx,hb⟩);obtain ⟨i,x,hx,hb⟩:=this;have hi:=(zBt.1 hx).1;have hx':s.Ws[((i:Int)+1-1).toNat]? =some x:=by rw [show ((i:Int)+1-1).toNat=i by omega];exact hx
 have hw:1<=(i:Int)+1/\(i:Int)+1<=p.Workers:=by omega
 exact ⟨(i:Int)+1,x,hw,hx',hb,zzw hp I hw hx' hb⟩
theorem zqq {p:zc}(hp:zB p) {w:Int}(hw:1<=w/\w<=p.Workers):∀(l:List Int) {k:Nat}{s:za}{x:zh}{n:Nat},(∀v∈l,1<=v/\v<=p.Workers)->k+l.length<4294960000->WI p k s->NB s->s.Ws[(w-1).toNat]? =some x->zht p s.M w x n ->
  (∃l1 l2,l=l1++l2/\¬NB (goW s l1))\/(NB (goW s l)/\∃x' m,(goW s l).Ws[(w-1).toNat]? =some x'/\zht p (goW s l).M w x' m/\m<=n/\(w∈l->m<n))
 | [],k,s,x,n,_,_,Z,B,hx,C=>.inr ⟨B,x,n,hx,C,zBm _,fun h=>(by cases h)⟩
 | v::l,k,s,x,n,hl,hk,Z,B,hx,C=>by
  rw [zBv] at hk;have hv:=hl v (zBx ..);have hl':∀u∈l,1<=u/\u<=p.Workers:=fun u hu=>hl u (zBr _ hu);obtain ⟨Z1,_⟩:=Z.step hp (by omega) hv;by_cases B1:NB (zt s v);rotate_left
  .exact .inl ⟨[v],l,rfl,B1⟩
  obtain ⟨gh,I⟩:=Z.I;have G:=I.G;have hwl:=G.E.wl;have hi:(v-1).toNat<s.Ws.length:=by omega
  have hy:=zBn hi;generalize s.Ws[(v-1).toNat]=y at hy;have ei:(((v-1).toNat:Nat):Int)+1=v:=by omega
  have ew:(((w-1).toNat:Nat):Int)+1=w:=by omega
  have eS:=zfP I.d (by omega) hy;have eM:(zt s v).M=(zi s v y).1.M:=by rw [eS]
  have eW:(zt s v).Ws=s.Ws.set (v-1).toNat (zi s v y).2:=by rw [eS]
  have hyn:(zt s v).Ws[(v-1).toNat]? =some (zi s v y).2:=by rw [eW];exact zB3 hi
  have key:∃x1 n1,(zt s v).Ws[(w-1).toNat]? =some x1/\zht p (zt s v).M w x1 n1/\n1<=n/\(v=w->n1<n):=by
   by_cases e:v=w
   .subst e;have hxy:y=x:=by rw [hx] at hy;injection hy with hy;exact hy.symm
    subst hxy;rcases zxN hp (by omega) I Z.N hv hx (B _ _ hx) C with h | ⟨m,h1,h2⟩
    .exact zk h (B1 _ _ hyn)
    .exact ⟨_,m,hyn,by rw [eM];exact h2,by omega,fun _=>h1⟩
   .have Ow:=G.E.W _ x hx;have Kw:=G.W _ x hx;have Ov:=G.E.W _ y hy;have Kv:=G.W _ y hy;rw [ew] at Ow Kw;rw [ei] at Ov Kv;have hne:(v-1).toNat≠(w-1).toNat:=by omega
    exact ⟨x,n,by rw [eW,zBI hne];exact hx,by rw [eM];exact zvO hp G hw hv e Ow Kw Ov Kv (B _ _ hx) (B _ _ hy) (B1 _ _ hyn) C,zBm _,fun q=>zk q e⟩
  obtain ⟨x1,n1,q1,q2,q3,q4⟩:=key;rcases zqq hp hw l hl' (by omega) Z1 B1 q1 q2 with ⟨l1,l2,e,h⟩ | ⟨h,x2,m,r1,r2,r3,r4⟩
  .exact .inl ⟨v::l1,l2,by rw [e];rfl,h⟩
  .refine .inr ⟨h,x2,m,r1,r2,by omega,fun hmem=>?_⟩;rcases zBG.1 hmem with e | e
   .have:=q4 e.symm;omega
   .have:=r4 e;omega
theorem zvA (s:za) (a b:List Int):goW s (a++b)=goW (goW s a) b:=by unfold goW;rw [List.foldl_append]
theorem Vi (l:List Int):∀(a b:Nat) (s:za),xF l (a+b) s=xF l b (xF l a s)
 | 0,b,s=>by rw [Nat.zero_add];rfl
 | a+1,b,s=>by
  rw [show a+1+b=(a+b)+1 by omega];exact Vi l a b (goW s l)
theorem zuZ {p:zc}(hp:zB p) {l1 l2:List Int}(hl:∀v∈l1++l2,1<=v/\v<=p.Workers) {k:Nat}{s:za}(hk:k+(l1++l2).length<4294960000) (Z:WI p k s) (h: ¬NB (goW s l1)) :
  nbk (goW s (l1++l2)).T+1<=nbk s.T\/Hot p (goW s (l1++l2)) 104:=by
 rw [zBz] at hk;obtain ⟨Z1,h1⟩:=WI.go hp l1 (fun v hv=>hl v (zBH _ hv)) (by omega) Z;obtain ⟨w,x,hw,hx,B,hm⟩:=zsq hp Z1 h;rw [zvA];rcases zsy hp hw l2 (fun v hv=>hl v (zBJ _ hv)) (by omega) Z1 hx B with q | ⟨x',q1,q2,q3,_⟩
 .left;omega
 .exact .inr ⟨w,x',hw,q1,q2,by omega⟩
theorem zuj {p:zc}(hp:zB p) {l:List Int}(hl:∀v∈l,1<=v/\v<=p.Workers) (hlen:l.length<=3) {w:Int}(hw:1<=w/\w<=p.Workers) (hwl:w∈l):∀(n:Nat) {k:Nat}{s:za}{x:zh},k+3*n+3<4294960000->WI p k s->NB s->s.Ws[(w-1).toNat]? =some x->zht p s.M w x n ->
  ∃j,j<=n+1/\(nbk (xF l j s).T+1<=nbk s.T\/Hot p (xF l j s) 104):=by
 intro n
 induction n with
 | zero =>
  intro k s x hk Z B hx C;rcases zqq hp hw l hl (by omega) Z B hx C with ⟨l1,l2,e,h⟩ | ⟨_,_,m,_,_,_,h⟩
  .subst e;exact ⟨1,zBm _,zuZ hp hl (by omega) Z h⟩
  .have:=h hwl;omega
 | succ n ih =>
  intro k s x hk Z B hx C;rcases zqq hp hw l hl (by omega) Z B hx C with ⟨l1,l2,e,h⟩ | ⟨B1,x1,m,hx1,C1,_,h⟩
  .subst e;exact ⟨1,by omega,zuZ hp hl (by omega) Z h⟩
  .have hm:=h hwl;obtain ⟨Z1,mono⟩:=WI.go hp l hl (by omega) Z;have C2:zht p (goW s l).M w x1 n:=by
    rcases C1 with ⟨a,b,c⟩ | ⟨a,b⟩ | ⟨a,b⟩
    .exact .inl ⟨a,b,by omega⟩
    .exact .inr (.inl ⟨a,by omega⟩)
    .exact .inr (.inr ⟨a,by omega⟩)
   obtain ⟨j,h1,h2⟩:=ih (by omega) Z1 B1 hx1 C2;refine ⟨j+1,by omega,?_⟩;show nbk (xF l j (goW s l)).T+1<=_\/_;exact h2.imp (fun q=>by omega) id
theorem ztq {p:zc}(hp:zB p) {l:List Int}(hl:∀v∈l,1<=v/\v<=p.Workers) (hlen:l.length<=3) (hall:∀w,1<=w->w<=p.Workers->w∈l) {k:Nat}{s:za}(hk:k+1000<4294960000) (Z:WI p k s)
  (hs: ¬NB s\/∃(w:Int) (x:zh),(1<=w/\w<=p.Workers)/\s.Ws[(w-1).toNat]? =some x/\zht p s.M w x 61):nbk (xF l 167 s).T+1<=nbk s.T:=by
 have fin:∀j,j<=62->(nbk (xF l j s).T+1<=nbk s.T\/Hot p (xF l j s) 104)->nbk (xF l 167 s).T+1<=nbk s.T:=fun j hj h=>by
  obtain ⟨k1,h1,Z1,m1⟩:=WI.rounds hp hl hlen j (k:=k) (by omega) Z;rcases h with h | h
  .rw [show 167=j+(167-j) by omega,Vi];obtain ⟨_,_,_,m2⟩:=WI.rounds hp hl hlen (167-j) (k:=k1) (by omega) Z1;omega
  .have:=zog hp hl hlen hall 104 (k:=k1) (by omega) Z1 h;rw [show 167=(j+105)+(62-j) by omega,Vi,Vi];obtain ⟨k2,h2,Z2,m2⟩:=WI.rounds hp hl hlen 105 (k:=k1) (by omega) Z1;obtain ⟨_,_,_,m3⟩:=WI.rounds hp hl hlen (62-j) (k:=k2) (by omega) Z2;have this:nbk (xF l 105 (xF l j s)).T+1<=nbk (xF l j s).T:=this;omega
 by_cases B:NB s
 .obtain ⟨w,x,hw,hx,C⟩:=hs.resolve_left (fun q=>q B);obtain ⟨j,h1,h2⟩:=zuj hp hl hlen hw (hall w hw.1 hw.2) 61 (k:=k) (by omega) Z B hx C;exact fin j (by omega) h2
 .exact fin 0 (by omega) (.inr (zsq hp Z B))
theorem zrv {p:zc}(hp:zB p) {k:Nat}{s:za}{gh:Gh}(I:SI p k s gh) (hM:∀x∈s.Ms,yh s x=[]) {o:Int}(ho:yT s.T o=1) :
  ¬NB s\/∃(w:Int) (x:zh),(1<=w/\w<=p.Workers)/\s.Ws[(w-1).toNat]? =some x/\zht p s.M w x 61:=by
 by_cases B:NB s;rotate_left
 .exact .inl B
 right;have G:=I.G;have hwl:=G.E.wl;have hwk:=hp.wk;have at_:∀w,1<=w->w<=p.Workers->∃x,s.Ws[(w-1).toNat]? =some x/\WOk p (z7 p+1) w x/\WX p s gh w x/\¬Y2 x/\pm p s.M w x<=61/\cm p s.M w x<=61:=fun w h1 h2=>by
  have hi:(w-1).toNat<s.Ws.length:=by omega
  have hx:=zBn hi;generalize s.Ws[(w-1).toNat]=x at hx;have ei:(((w-1).toNat:Nat):Int)+1=w:=by omega
  have O:=G.E.W _ x hx;have K:=G.W _ x hx;rw [ei] at O K;have hle:=I.le hp ⟨h1,h2⟩ hx;refine ⟨x,hx,O,K,B _ _ hx,?_,?_⟩
  .unfold pm;split
   .omega
   split
   .omega
   split
   .rename_i c;have:=(K.p0 c).pc;omega
   .omega
  .unfold cm;split
   .omega
   split<;>omega
 have hb:=(G.B.gr o).2 ho;unfold Zf yK at hb;rcases zBE.1 hb with hb | hb
 .rcases zBE.1 hb with hb | hb
  .obtain ⟨y,hy,_⟩:=zCc.1 hb;obtain ⟨x,hx,O,K,_,_,h⟩:=at_ 1 (by omega) (by omega);refine ⟨1,x,by omega,hx,.inr (.inr ⟨fun e=>?_,h⟩)⟩;have c:=G.X.L.cF;rw [e] at c;rw [c.empty] at hy;cases hy
  .obtain ⟨i,hi,hd⟩:=zCc.1 hb;have hi:=zBW.1 hi;obtain ⟨x,hx,O,K,_,h,_⟩:=at_ ((i:Int)+1) (by omega) (by omega);exact ⟨(i:Int)+1,x,by omega,hx,.inr (.inl ⟨⟨_,_,_,G.X.D _ (by omega) (by omega),K.c0,K.p0,.inl (fun e=>by rw [e] at hd;cases hd)⟩,h⟩)⟩
 .rcases zBE.1 hb with hb | hb
  .obtain ⟨x,hxm,hd⟩:=zCc.1 hb;obtain ⟨i,hxi⟩:=zCm.1 hxm;have hi:=(zBt.1 hxi).1;obtain ⟨x',hx,O,K,hnb,h,_⟩:=at_ ((i:Int)+1) (by omega) (by omega);have e:x'=x:=by
    rw [show ((i:Int)+1-1).toNat=i by omega,hxi] at hx;injection hx with hx;exact hx.symm
   subst e;refine ⟨(i:Int)+1,x',by omega,hx,?_⟩;unfold zY at hd;rcases zpQ O.pc hnb with c | c | c | ⟨c,hbt⟩ | c
   .rw [K.bt (by omega),zsA c,zBy] at hd;exact .inr (.inl ⟨⟨_,_,_,G.X.D _ (by omega) (by omega),K.c0,K.p0,.inr ⟨c,(zij (m:=s.M)).1 (fun e=>by rw [e] at hd;cases hd)⟩⟩,h⟩)
   .rw [K.bt (by omega),uQ (.inl c)] at hd;cases hd
   .rw [K.bt (by omega),uQ (.inr (.inl c))] at hd;cases hd
   .rw [hbt,uQ (by omega)] at hd;cases hd
   .rw [uQ (by omega),zBo] at hd;exact .inl ⟨c,fun e=>(by rw [e] at hd;cases hd),by omega⟩
  .obtain ⟨x,hx,hd⟩:=zCc.1 hb;rw [hM x hx] at hd;cases hd
def owG (g:zH):Int:=if g.Out=0/\(g.PC=1\/g.PC=2) then 1 else 0
def owW (x:zh):Int:=if x.PC=9 then 1 else if x.PC=6 then owG x.G else 0
def owX (x:zg):Int:=if x.PC=39 then 1 else if x.PC=3\/x.PC=37 then owG x.G else 0
theorem zxa (g:zH):0<=owG g/\owG g<=1:=by unfold owG;split<;>decide
theorem zsw (x:zh):0<=owW x/\owW x<=1:=by
 unfold owW;split
 .decide
 split
 .exact zxa _
 .decide
theorem zsb (x:zg):0<=owX x/\owX x<=1:=by
 unfold owX;split
 .decide
 split
 .exact zxa _
 .decide
theorem Yp {g:zH}(h:g.Out≠0\/(g.PC≠1/\g.PC≠2)):owG g=0:=by unfold owG;rw [ze]
theorem zod {g:zH}(h:g.Out=0) (h2:g.PC=1\/g.PC=2):owG g=1:=by unfold owG;rw [zb ⟨h,h2⟩]
theorem zxH (t:zA) (o:Int):((vT t o).2=false/\(vT t o).1=t)\/((vT t o).2=true/\¬(t.Marks|||bit o=t.Marks)/\(vT t o).1={t with Marks:=t.Marks|||bit o}):=by
 unfold vT;split
 .exact .inl ⟨rfl,rfl⟩
 split
 .rename_i h _;exact .inr ⟨rfl,h,rfl⟩
 .exact .inl ⟨rfl,rfl⟩
theorem zq9 {p:zc}{s:za}{gh:Gh}{g:zH}(G:GX p s gh g) (g0:g.Out=0) (hw:0<=s.Work/\s.Work<=4294970000) :
  ((zx s g).1.T=s.T/\(zx s g).1.Work=s.Work+owG (zx s g).2-owG g) \/
  (¬(s.T.Marks|||bit g.Obj=s.T.Marks)/\(zx s g).1.T={s.T with Marks:=s.T.Marks|||bit g.Obj}/\(zx s g).1.Work=s.Work+owG (zx s g).2-owG g+1):=by
 have hpc:=G.pc;have hmd:=G.md;unfold zx;rw [ze];by_cases c7:g.PC=7
 .rw [zb c7];unfold Uf;dsimp only;left;refine ⟨rfl,?_⟩;rw [Yp (g:=g) (by omega),Yp (by split<;>(dsimp only;omega))];omega
 rw [zd c7];by_cases c6:g.PC=6
 .rw [zb c6];left;refine ⟨rfl,?_⟩;rw [Yp (g:=g) (by omega),Yp (by show _\/((7:Int)≠1/\(7:Int)≠2);omega)];show s.Work=_;omega
 rw [zd c6];by_cases c5:g.PC=5
 .rw [zb c5];unfold zeH zcC;dsimp only;left;refine ⟨rfl,?_⟩;rw [Yp (g:=g) (by omega),Yp (by (repeat' split)<;>(dsimp only;omega))];omega
 rw [zd c5];by_cases c4:g.PC=4
 .rw [zb c4];left;refine ⟨rfl,?_⟩;rw [Yp (g:=g) (by omega),Yp (by show _\/((5:Int)≠1/\(5:Int)≠2);omega)];show s.Work=_;omega
 rw [zd c4];by_cases c3:g.PC=3
 .rw [zb c3];unfold zek zcC;dsimp only;left;refine ⟨rfl,?_⟩;rw [Yp (g:=g) (by omega),Yp (by (repeat' split)<;>(dsimp only;omega))];omega
 rw [zd c3];by_cases c2:g.PC=2
 .rw [zb c2];left;refine ⟨rfl,?_⟩;rw [zod g0 (.inr c2),Yp (by show (1:Int)≠0\/_;omega)];show wc (s.Work-1)=_;rw [yP];omega
 rw [zd c2];by_cases c1:g.PC=1
 .rw [zb c1];unfold zeI;dsimp only;rw [zod g0 (.inl c1)];rcases zxH s.T g.Obj with ⟨a,b⟩ | ⟨a,b,c⟩
  .left;refine ⟨b,?_⟩;rw [zb a,zod (by dsimp only;exact g0) (.inr rfl)];omega
  .right;refine ⟨b,c,?_⟩;rw [zd (by rw [a];decide)];unfold zcC;rw [Yp (by (repeat' split)<;>(dsimp only;omega))];omega
 rw [zd c1];left;refine ⟨rfl,?_⟩;rw [Yp (g:=g) (by omega),zod (by dsimp only;exact g0) (.inl rfl)];show wc (s.Work+1)=_;rw [yP];omega
theorem zkI {t:zA}{o:Int}(h:yT t o=1):xP t o≠t:=by
 have hb:=(vu t o).1 h;have hr:=Xv h;unfold xP;rw [zb h];intro e;have e:=congrArg zA.Black e;exact hb.2 (by rw [<-e];exact (wg _ hr o).2 (.inr rfl))
theorem zc3 {t:zA}{o:Int}(h: ¬(t.Marks|||bit o=t.Marks)):({t with Marks:=t.Marks|||bit o}:zA)≠t:=fun e=>h (congrArg zA.Marks e)
theorem zwv {p:zc}{nb:Nat}{s:za}{gh:Gh}{w:Int}{x:zh}(W:WX p s gh w x) (O:WOk p nb w x) (hw:0<=s.Work/\s.Work<=4294970000) (h8:x.PC=8->yT s.T x.Obj=1) {N C:List Int}
  (hT:(N=[]/\C=[]/\(zi s w x).1.T=s.T)\/(N=[x.G.Obj]/\C=[]/\x.PC=6/\¬(s.T.Marks|||bit x.G.Obj=s.T.Marks)/\(zi s w x).1.T={s.T with Marks:=s.T.Marks|||bit x.G.Obj})\/(N=[]/\C=[x.Obj]/\x.PC=8/\(zi s w x).1.T=xP s.T x.Obj)) :
  (zi s w x).1.Work=s.Work+owW (zi s w x).2-owW x+(N.length:Int)-(C.length:Int):=by
 have hpc:=O.pc;revert hT;have ob:∀y:zh,owW (Z5 s.P w y)=0:=fun y=>rfl;have ol:∀y:zh,owW (vh s.P w y)=0:=fun y=>by unfold vh;split<;>rfl
 have quiet:∀ {t:za}{y:zh},(N=[]/\C=[]/\t.T=s.T)\/(N=[x.G.Obj]/\C=[]/\x.PC=6/\¬(s.T.Marks|||bit x.G.Obj=s.T.Marks)/\t.T={s.T with Marks:=s.T.Marks|||bit x.G.Obj})\/(N=[]/\C=[x.Obj]/\x.PC=8/\t.T=xP s.T x.Obj) ->
   x.PC≠6->x.PC≠8->t.Work=s.Work+owW y-owW x->t.Work=s.Work+owW y-owW x+(N.length:Int)-(C.length:Int):=by
  rintro t y (⟨e1,e2,_⟩ | ⟨_,_,e,_⟩ | ⟨_,_,e,_⟩) h1 h2 h
  .rw [e1,e2];simp only [zB4];omega
  .omega
  .omega
 have o0:x.PC≠9->x.PC≠6->owW x=0:=fun h1 h2=>by unfold owW;rw [zd h1,zd h2]
 unfold zi;split
 .rename_i c;intro hT;refine quiet hT (by omega) (by omega) ?_;rw [o0 (by omega) (by omega)];show s.Work=_;dsimp only;split
  .show s.Work=s.Work+0-0;omega
  split
  .rw [ol];omega
  .rw [show owW {x with D:=(zT s.M x.D).2}=owW x from rfl,o0 (by omega) (by omega)];omega
 split
 .intro hT;refine quiet hT (by omega) (by omega) ?_;rw [o0 (by omega) (by omega)];show s.Work=_;dsimp only;split
  .rw [show ∀b c,owW {x with C:=c,Bin:=b,PC:=3}=0 from fun _ _=>rfl];omega
  split
  .rw [ob];omega
  .rw [show owW {x with C:=(zo s.M x.C).2}=owW x from rfl,o0 (by omega) (by omega)];omega
 split
 .intro hT;refine quiet hT (by omega) (by omega) ?_;rw [o0 (by omega) (by omega)];show s.Work=s.Work+0-0;omega
 split
 .intro hT;refine quiet hT (by omega) (by omega) ?_;rw [o0 (by omega) (by omega)];show s.Work=_;dsimp only;split
  .rw [show ∀c,owW {x with PC:=7,C:=c,Bin:=0}=0 from fun _=>rfl];omega
  .rw [show owW {x with C:=(zo s.M x.C).2}=owW x from rfl,o0 (by omega) (by omega)];omega
 split
 .intro hT;refine quiet hT (by omega) (by omega) ?_;rw [o0 (by omega) (by omega)];dsimp only;split
  .have:∀y,owW {x with Slot:=y,PC:=onW s y}=0:=fun y=>by
    unfold owW;rcases zhz s y with e | e<;>rw [zd (by dsimp only;omega),zd (by dsimp only;omega)]
   rw [this];omega
  .rw [show ∀y v,owW {x with Slot:=y,PC:=6,G:=Zh 1 v w}=0 from fun _ _=>rfl];omega
 split
 .rename_i c;intro hT;obtain ⟨G,gm,gw,g0⟩:=W.p6 c;have e1:owW x=owG x.G:=by unfold owW;rw [ze,zb c]
  have e2:owW (if (zx s x.G).2.Out=1 then {x with G:=(zx s x.G).2,PC:=onW s x.Slot} else {x with G:=(zx s x.G).2})=owG (zx s x.G).2:=by
   split
   .rename_i o;rw [Yp (.inl (by omega))];unfold owW;rcases zhz s x.Slot with e | e<;>rw [zd (by dsimp only;omega),zd (by dsimp only;omega)]
   .unfold owW;rw [zd (by dsimp only;omega),zb c]
  dsimp only at hT ⊢;rw [e1,e2];rcases zq9 G g0 hw with ⟨a,b⟩ | ⟨a,b,d⟩
  .rcases hT with ⟨n1,n2,_⟩ | ⟨_,_,_,n3,n4⟩ | ⟨_,_,e,_⟩
   .rw [n1,n2,b];simp only [zB4];omega
   .exact zk (n4.symm.trans a) (zc3 n3)
   .omega
  .rcases hT with ⟨n1,n2,n3⟩ | ⟨n1,n2,_,n3,n4⟩ | ⟨_,_,e,_⟩
   .exact zk (b.symm.trans n3) (zc3 a)
   .rw [n1,n2,d];simp only [zB4,zBv];omega
   .omega
 split
 .intro hT;refine quiet hT (by omega) (by omega) ?_;rw [o0 (by omega) (by omega)];dsimp only;split
  .rw [ob];omega
  .rw [show ∀o l,owW {x with PC:=5,Obj:=o,Slot:=0,Batch:=l}=0 from fun _ _=>rfl];omega
 split
 .rename_i c;intro hT;have e0:owW x=0:=o0 (by omega) (by omega);rw [e0];rcases hT with ⟨_,_,e⟩ | ⟨_,_,e,_⟩ | ⟨n1,n2,_,_⟩
  .exact zk e (zkI (h8 c))
  .omega
  .rw [n1,n2];show s.Work=s.Work+1-0+0-1;omega
 split
 .rename_i c;intro hT;refine quiet hT (by omega) (by omega) ?_;have e1:owW x=1:=by unfold owW;rw [zb c]
  rw [e1];show wc (s.Work-1)=s.Work+0-1;rw [yP];omega
 .intro hT;omega
theorem zyW {p:zc}{nb:Nat}{s:za}{gh:Gh}{m:Int}{x:zg}(W:MX p s gh x) (O:XOk p nb m x) (hw:0<=s.Work/\s.Work<=4294970000) (h8:x.PC=38->yT s.T x.Obj=1) {N C:List Int}
  (hT:(N=[]/\C=[]/\(zq s m x).1.T=s.T)\/(N=[x.G.Obj]/\C=[]/\(x.PC=3\/x.PC=37)/\¬(s.T.Marks|||bit x.G.Obj=s.T.Marks)/\(zq s m x).1.T={s.T with Marks:=s.T.Marks|||bit x.G.Obj})\/(N=[]/\C=[x.Obj]/\x.PC=38/\(zq s m x).1.T=xP s.T x.Obj) \/
   (N=[]/\C=[]/\x.PC=30/\W3 s.H s.P.Most=true/\(zq s m x).1.H=wK s.H/\(zq s m x).1.T=X3 s.T (wc (s.H.Objs.length+1)))) :
  (zq s m x).1.Work=s.Work+owX (zq s m x).2-owX x+(N.length:Int)-(C.length:Int):=by
 have hpc:=O.pc;have hrt:=O.ret;have calm:∀ {r:za×zg},(N=[]/\C=[]/\r.1.T=s.T)\/(N=[x.G.Obj]/\C=[]/\(x.PC=3\/x.PC=37)/\¬(s.T.Marks|||bit x.G.Obj=s.T.Marks)/\r.1.T={s.T with Marks:=s.T.Marks|||bit x.G.Obj})\/(N=[]/\C=[x.Obj]/\x.PC=38/\r.1.T=xP s.T x.Obj) \/
   (N=[]/\C=[]/\x.PC=30/\W3 s.H s.P.Most=true/\r.1.H=wK s.H/\r.1.T=X3 s.T (wc (s.H.Objs.length+1))) ->
   x.PC≠3->x.PC≠37->x.PC≠38->r.1.Work=s.Work+owX r.2-owX x->r.1.Work=s.Work+owX r.2-owX x+(N.length:Int)-(C.length:Int):=by
  rintro r (⟨e1,e2,_⟩ | ⟨_,_,e,_⟩ | ⟨_,_,e,_⟩ | ⟨e1,e2,_⟩) h1 h2 h3 h
  .rw [e1,e2];simp only [zB4];omega
  .omega
  .omega
  .rw [e1,e2];simp only [zB4];omega
 have o0:∀ {y:zg},y.PC≠39->y.PC≠3->y.PC≠37->owX y=0:=fun h1 h2 h3=>by unfold owX;rw [zd h1,ze]
 have og:∀(y:zg) (k a b:Int),owX {y with PC:=3,G:=Zh k a b}=0:=fun y k a b=>by unfold owX;rw [zd (by dsimp only;omega),zb (.inl rfl)];exact Yp (.inr ⟨by show (0:Int)≠1;decide,by show (0:Int)≠2;decide⟩)
 have gq:∀(N C:List Int) (G:GX p s gh x.G) (g0:x.G.Out=0) (hT:(N=[]/\C=[]/\(zx s x.G).1.T=s.T)\/(N=[x.G.Obj]/\C=[]/\(x.PC=3\/x.PC=37)/\¬(s.T.Marks|||bit x.G.Obj=s.T.Marks)/\(zx s x.G).1.T={s.T with Marks:=s.T.Marks|||bit x.G.Obj})),
   (zx s x.G).1.Work=s.Work+owG (zx s x.G).2-owG x.G+(N.length:Int)-(C.length:Int):=by
  intro N C G g0 hT;rcases zq9 G g0 hw with ⟨a,b⟩ | ⟨a,b,d⟩
  .rcases hT with ⟨n1,n2,_⟩ | ⟨_,_,_,n3,n4⟩
   .rw [n1,n2,b];simp only [zB4];omega
   .exact zk (n4.symm.trans a) (zc3 n3)
  .rcases hT with ⟨n1,n2,n3⟩ | ⟨n1,n2,_,n3,n4⟩
   .exact zk (b.symm.trans n3) (zc3 a)
   .rw [n1,n2,d];simp only [zB4,zBv];omega
 revert hT;refine xV (motive:=fun r=>((N=[]/\C=[]/\r.1.T=s.T)\/(N=[x.G.Obj]/\C=[]/\(x.PC=3\/x.PC=37)/\¬(s.T.Marks|||bit x.G.Obj=s.T.Marks)/\r.1.T={s.T with Marks:=s.T.Marks|||bit x.G.Obj})\/(N=[]/\C=[x.Obj]/\x.PC=38/\r.1.T=xP s.T x.Obj) \/
   (N=[]/\C=[]/\x.PC=30/\W3 s.H s.P.Most=true/\r.1.H=wK s.H/\r.1.T=X3 s.T (wc (s.H.Objs.length+1)))) ->
   r.1.Work=s.Work+owX r.2-owX x+(N.length:Int)-(C.length:Int)) s m x ?_ ?_ ?_ ?_ ?_ ?_ ?_ ?_ ?_ ?_ ?_ ?_ ?_ ?_ ?_ ?_ ?_ ?_ ?_ ?_
 .intro c hT;refine calm hT (by omega) (by omega) (by omega) ?_;rw [o0 (y:=x) (by omega) (by omega) (by omega)];unfold mu0 zaj
  repeat' split
  all_goals (rw [o0 (by (try dsimp only [setM]);omega) (by (try dsimp only [setM]);omega) (by (try dsimp only [setM]);omega)];dsimp only;omega)
 .intro c hT;refine calm hT (by omega) (by omega) (by omega) ?_;rw [o0 (y:=x) (by omega) (by omega) (by omega)];unfold mu1;dsimp only;split
  .have:=hrt (.inl c);rw [o0 (by dsimp only;omega) (by dsimp only;omega) (by dsimp only;omega)];omega
  .have e:∀l,owX {x with PC:=3,Buf:=l,G:=Zh 2 (x.Buf.getD (x.Buf.length-1) 0) m}=0:=fun l=>og {x with Buf:=l} 2 _ m;rw [e];omega
 .intro c hT;refine calm hT (by omega) (by omega) (by omega) ?_;rw [o0 (y:=x) (by omega) (by omega) (by omega)];show s.Work=s.Work+0-0;omega
 .intro c hT;obtain ⟨G,gm,g0⟩:=W.p3 c;have e1:owX x=owG x.G:=by unfold owX;rw [ze,zb (.inl c)]
  unfold mu3 at hT ⊢;dsimp only at hT ⊢;have e2:owX (if (zx s x.G).2.Out=1 then {x with PC:=1,G:=(zx s x.G).2} else {x with G:=(zx s x.G).2})=owG (zx s x.G).2:=by
   split
   .rename_i o;rw [Yp (.inl (by omega)),o0 (by dsimp only;omega) (by dsimp only;omega) (by dsimp only;omega)]
   .unfold owX;rw [zd (by dsimp only;omega),zb (.inl c)]
  rw [e1,e2];refine gq N C G g0 ?_;rcases hT with h | h | ⟨_,_,e,_⟩ | ⟨_,_,e,_⟩
  .exact .inl h
  .exact .inr h
  .omega
  .omega
 .intro c hT;refine calm hT (by omega) (by omega) (by omega) ?_;rw [o0 (y:=x) (by omega) (by omega) (by omega)];show s.Work=s.Work+0-0;omega
 .intro c hT;refine calm hT (by omega) (by omega) (by omega) ?_;rw [o0 (y:=x) (by omega) (by omega) (by omega)];unfold zdH;dsimp only;split<;>(rw [o0 (by dsimp only [vP];omega) (by dsimp only [vP];omega) (by dsimp only [vP];omega)];omega)
 .intro c hT;refine calm hT (by omega) (by omega) (by omega) ?_;rw [o0 (y:=x) (by omega) (by omega) (by omega)];unfold zd7;dsimp only;split<;>(rw [o0 (by dsimp only;omega) (by dsimp only;omega) (by dsimp only;omega)];omega)
 .intro c hT;refine calm hT (by omega) (by omega) (by omega) ?_;rw [o0 (y:=x) (by omega) (by omega) (by omega)];unfold zdz;dsimp only;split<;>(rw [o0 (by dsimp only;omega) (by dsimp only;omega) (by dsimp only;omega)];omega)
 .intro c hT;refine calm hT (by omega) (by omega) (by omega) ?_;rw [o0 (y:=x) (by omega) (by omega) (by omega)];show s.Work=s.Work+0-0;omega
 .intro c hT;refine calm hT (by omega) (by omega) (by omega) ?_;rw [o0 (y:=x) (by omega) (by omega) (by omega)];unfold U0;split
  .split
   .show s.Work=s.Work+0-0;omega
   .show s.Work=s.Work+0-0;omega
  .show s.Work=s.Work+0-0;omega
 .intro c hT;refine calm hT (by omega) (by omega) (by omega) ?_;rw [o0 (y:=x) (by omega) (by omega) (by omega)];unfold zea;dsimp only;split<;>(rw [o0 (by dsimp only;omega) (by dsimp only;omega) (by dsimp only;omega)];omega)
 .intro c hT;refine calm hT (by omega) (by omega) (by omega) ?_;rw [o0 (y:=x) (by omega) (by omega) (by omega)];unfold zdD;dsimp only;split
  .rw [o0 (by dsimp only;omega) (by dsimp only;omega) (by dsimp only;omega)];omega
  split<;>(rw [o0 (by dsimp only;omega) (by dsimp only;omega) (by dsimp only;omega)];omega)
 .intro c hT;refine calm hT (by omega) (by omega) (by omega) ?_;rw [o0 (y:=x) (by omega) (by omega) (by omega)];show s.Work=s.Work+0-0;omega
 .intro c hT;refine calm hT (by omega) (by omega) (by omega) ?_;rw [o0 (y:=x) (by omega) (by omega) (by omega)];unfold zdX;dsimp only;split<;>(rw [o0 (by dsimp only;omega) (by dsimp only;omega) (by dsimp only;omega)];omega)
 .intro c hT;refine calm hT (by omega) (by omega) (by omega) ?_;rw [o0 (y:=x) (by omega) (by omega) (by omega)];unfold zdG;dsimp only;split<;>(rw [o0 (by dsimp only;omega) (by dsimp only;omega) (by dsimp only;omega)];omega)
 .intro c hT;refine calm hT (by omega) (by omega) (by omega) ?_;rw [o0 (y:=x) (by omega) (by omega) (by omega)];unfold zd4;dsimp only;split
  .have:=zbp s (wc (x.Slot+1));rw [o0 (by dsimp only;omega) (by dsimp only;omega) (by dsimp only;omega)];omega
  .have e:∀y v,owX {x with Slot:=y,PC:=37,G:=Zh 3 v m}=0:=fun y v=>by unfold owX;rw [zd (by dsimp only;omega),zb (.inr rfl)];exact Yp (.inr ⟨by show (0:Int)≠1;decide,by show (0:Int)≠2;decide⟩)
   rw [e];omega
 .intro c hT;obtain ⟨G,gm,g0⟩:=W.p37 c;have e1:owX x=owG x.G:=by unfold owX;rw [ze,zb (.inr c)]
  unfold UY at hT ⊢;dsimp only at hT ⊢;have e2:owX (if (zx s x.G).2.Out=1 then {x with G:=(zx s x.G).2,PC:=onM s x.Slot} else {x with G:=(zx s x.G).2})=owG (zx s x.G).2:=by
   split
   .rename_i o;have:=zbp s x.Slot;rw [Yp (.inl (by omega)),o0 (by dsimp only;omega) (by dsimp only;omega) (by dsimp only;omega)]
   .unfold owX;rw [zd (by dsimp only;omega),zb (.inr c)]
  rw [e1,e2];refine gq N C G g0 ?_;rcases hT with h | h | ⟨_,_,e,_⟩ | ⟨_,_,e,_⟩
  .exact .inl h
  .exact .inr h
  .omega
  .omega
 .intro c hT;rw [o0 (y:=x) (by omega) (by omega) (by omega)];rcases hT with ⟨_,_,e⟩ | ⟨_,_,e,_⟩ | ⟨n1,n2,_,_⟩ | ⟨_,_,e,_⟩
  .exact zk e (zkI (h8 c))
  .omega
  .rw [n1,n2];show s.Work=s.Work+1-0+0-1;omega
  .omega
 .intro c hT;refine calm hT (by omega) (by omega) (by omega) ?_;have e1:owX x=1:=by unfold owX;rw [zb c]
  rw [e1];show wc (s.Work-1)=s.Work+0-1;rw [yP];omega
 .intro hT;rcases hT with ⟨n1,n2,_⟩ | ⟨_,_,_,n3,n4⟩ | ⟨n1,n2,c,e⟩ | ⟨n1,n2,_⟩
  .rw [n1,n2];simp only [zB4];omega
  .exact zk n4.symm (zc3 n3)
  .exact zk e.symm (zkI (h8 c))
  .rw [n1,n2];simp only [zB4];omega
def zbe (s:za):Int:=(s.Ws.map owW).sum+(s.Ms.map owX).sum
theorem ztE:∀ {l:List Int},(∀v∈l,0<=v)->0<=l.sum
 | [],_=>by simp
 | a::l,h=>by
  have:=ztE (l:=l) (fun v hv=>h v (zBr _ hv));have:=h a (zBx ..);rw [zCn];omega
theorem zAl (s:za):0<=zbe s:=by
 have h1:0<=(s.Ws.map owW).sum:=ztE (fun v hv=>by obtain ⟨x,_,rfl⟩:=zBB.1 hv;exact (zsw x).1);have h2:0<=(s.Ms.map owX).sum:=ztE (fun v hv=>by obtain ⟨x,_,rfl⟩:=zBB.1 hv;exact (zsb x).1);unfold zbe;omega
theorem zs5 {α:Type}{f:α->Int}{l:List α}{i:Nat}{x:α}(h:l[i]? =some x) (y:α):((l.set i y).map f).sum=(l.map f).sum-f x+f y:=by
 have hi:=(zBt.1 h).1;rw [List.map_set,zd3 _ _ _ (by simpa using hi)];rw [zBp,zBQ,h];rfl
structure EG (p:zc) (nb k:Nat) (s:za) (gh:Gh):Prop where
 G:FG p nb k s gh
 wk:s.Work=((Zf p s gh).length:Int)+zbe s
 le:s.Work<=2*(k:Int)+100
theorem EG.work_nn {p:zc}{nb k:Nat}{s:za}{gh:Gh}(I:EG p nb k s gh):0<=s.Work:=by
 have:=I.wk;have:=zAl s;omega
theorem zia (s:za):({wD s with Epoch:=s.Epoch,Flag:=s.Flag,Done:=s.Done,Restarts:=s.Restarts,D:=s.D}:za)=s:=by
 unfold wD
 repeat' split
 all_goals rfl
theorem FG.more {p:zc}{nb k:Nat}{s:za}{gh:Gh}(G:FG p nb k s gh):FG p nb (k+1) s gh:=⟨G.E,G.X.quiet G.E.S rfl,G.W,G.M,G.B,G.mrk,G.wob,G.buf,G.bk,G.ne⟩
theorem EG.more {p:zc}{nb k:Nat}{s:za}{gh:Gh}(I:EG p nb k s gh):EG p nb (k+1) s gh:=⟨I.G.more,I.wk,by have:=I.le;omega⟩
theorem EG.det {p:zc}(hp:zB p) {nb k:Nat}{s:za}{gh:Gh}(I:EG p nb k s gh):EG p nb (k+1) (wD s) gh/\X6 s (wD s):=by
 have hd:=zia s;have eM:(wD s).M=s.M:=by conv=>rhs;rw [<-hd]
 have eB:(wD s).Bins=s.Bins:=by conv=>rhs;rw [<-hd]
 have eT:(wD s).T=s.T:=by conv=>rhs;rw [<-hd]
 have eH:(wD s).H=s.H:=by conv=>rhs;rw [<-hd]
 have eW:(wD s).Ws=s.Ws:=by conv=>rhs;rw [<-hd]
 have eX:(wD s).Ms=s.Ms:=by conv=>rhs;rw [<-hd]
 have eK:(wD s).Work=s.Work:=by conv=>rhs;rw [<-hd]
 have e:Zf p (wD s) gh=Zf p s gh:=by
  unfold Zf;rw [eW,eX,Zc eB,wq (fun x _=>zbk (x:=x) eM eB),wq (fun x _=>zeq (x:=x) eB)]
 have e2:zbe (wD s)=zbe s:=by unfold zbe;rw [eW,eX]
 exact ⟨⟨I.G.det hp hd,by rw [e,e2,eK];exact I.wk,by rw [eK];have:=I.le;omega⟩,.inl ⟨eT,by rw [eH]⟩⟩
theorem EG.worker {p:zc}(hp:zB p) {nb k:Nat}{s:za}{gh:Gh}(hk:k<2147480000) (I:EG p nb k s gh) {w:Int}(hw:1<=w/\w<=p.Workers) (hd:s.Done=false):∃gh',EG p nb (k+1) (zt s w) gh'/\X6 s (zt s w):=by
 obtain ⟨gh',G',F,x,hx,N,C,hbag,hT⟩:=I.G.worker hp (by omega) hw hd;have hwl:=I.G.E.wl;have ei:(((w-1).toNat:Nat):Int)+1=w:=by omega
 have hWX:=I.G.W _ x hx;have hWO:=I.G.E.W _ x hx;rw [ei] at hWX hWO;have h8:x.PC=8->yT s.T x.Obj=1:=fun e=>I.G.grey (zc4 hx (by unfold zY;rw [XW (.inr e)];simp));have hnn:=I.work_nn;have hle:=I.le;have hW:=zwv hWX hWO (by omega) h8 hT;have hlen:=hbag.length_eq;rw [zBz,zBz] at hlen;have eS:zt s w={(zi s w x).1 with Ws:=s.Ws.set (w-1).toNat (zi s w x).2}:=by
  unfold zt;rw [zd (by rw [hd];rintro (e | e | e)<;>first | cases e | omega),hx]
 have eK:(zt s w).Work=(zi s w x).1.Work:=by rw [eS]
 have eX:(zt s w).Ms=s.Ms:=by rw [eS];show (zi s w x).1.Ms=_;rw [zcB hWO]
 have eW:(zt s w).Ws=s.Ws.set (w-1).toNat (zi s w x).2:=by rw [eS]
 have ho:zbe (zt s w)=zbe s-owW x+owW (zi s w x).2:=by
  unfold zbe;rw [eX,eW,zs5 hx];omega
 have hwk:=I.wk;have hN:N.length<=1:=by rcases hT with ⟨e,_⟩ | ⟨e,_⟩ | ⟨e,_⟩<;>rw [e]<;>simp
 have o1:=zsw x;have o2:=zsw (zi s w x).2;refine ⟨gh',⟨G',by rw [eK,hW,ho];omega,?_⟩,F⟩;rw [eK,hW];omega
theorem EG.mutator {p:zc}(hp:zB p) {nb k:Nat}{s:za}{gh:Gh}(hk:k<2147480000) (I:EG p nb k s gh) {m:Int}(hm:1<=m/\m<=p.Mutators) (hd:s.Done=false):∃gh',EG p nb (k+1) (zS s m) gh'/\X6 s (zS s m):=by
 obtain ⟨gh',G',F,x,hx,N,C,hbag,hT⟩:=I.G.mutator hp (by omega) hm hd;have hml:=I.G.E.ml;have ei:(((m-1).toNat:Nat):Int)+1=m:=by omega
 have hMX:=I.G.M _ x hx;have hXO:=I.G.E.X _ x hx;rw [ei] at hXO;have h8:x.PC=38->yT s.T x.Obj=1:=fun e=>I.G.grey (zlM hx (by unfold yh;rw [VG (.inr e)];simp));have hnn:=I.work_nn;have hle:=I.le;have hW:=zyW (m:=m) hMX hXO (by omega) h8 hT;have hlen:=hbag.length_eq;rw [zBz,zBz] at hlen;have eS:zS s m={(zq s m x).1 with Ms:=s.Ms.set (m-1).toNat (zq s m x).2}:=by
  unfold zS;rw [zd (by rw [hd];rintro (e | e | e)<;>first | cases e | omega),hx]
 have eK:(zS s m).Work=(zq s m x).1.Work:=by rw [eS]
 have eW:(zS s m).Ws=s.Ws:=by rw [eS];show (zq s m x).1.Ws=_;rw [zio]
 have eX:(zS s m).Ms=s.Ms.set (m-1).toNat (zq s m x).2:=by rw [eS]
 have ho:zbe (zS s m)=zbe s-owX x+owX (zq s m x).2:=by
  unfold zbe;rw [eX,eW,zs5 hx];omega
 have hwk:=I.wk;have hN:N.length<=1:=by rcases hT with ⟨e,_⟩ | ⟨e,_⟩ | ⟨e,_⟩ | ⟨e,_⟩<;>rw [e]<;>simp
 have o1:=zsb x;have o2:=zsb (zq s m x).2;refine ⟨gh',⟨G',by rw [eK,hW,ho];omega,?_⟩,F⟩;rw [eK,hW];omega
theorem zir {s:za}(hd:s.Done=true) (j:Int):Xi s j=s:=by
 unfold Xi;split
 .unfold wD;rw [zb hd]
 split
 .unfold zt;rw [zb (.inl hd)]
 .unfold zS;rw [zb (.inl hd)]
theorem EG.next {p:zc}(hp:zB p) {nb k:Nat}{s:za}{gh:Gh}(hk:k<2147480000) (I:EG p nb k s gh) (j:Int):∃gh',EG p nb (k+1) (Xi s j) gh'/\X6 s (Xi s j):=by
 cases hd:s.Done with
 | true=>rw [zir hd];exact ⟨gh,I.more,.inl ⟨rfl,rfl⟩⟩
 | false =>
  have hwl:=I.G.E.wl;have hml:=I.G.E.ml;unfold Xi;split
  .exact ⟨gh,I.det hp⟩
  split
  .by_cases h1:1<=j
   .exact I.worker hp hk (by omega) hd
   .have:zt s j=s:=by unfold zt;rw [zb (.inr (.inl (by omega)))]
    rw [this];exact ⟨gh,I.more,.inl ⟨rfl,rfl⟩⟩
  .by_cases h1:1<=j-(s.Ws.length:Int)/\j-(s.Ws.length:Int)<=(s.Ms.length:Int)
   .exact I.mutator hp hk (by omega) hd
   .have:zS s (j-(s.Ws.length:Int))=s:=by unfold zS;rw [yo]
    rw [this];exact ⟨gh,I.more,.inl ⟨rfl,rfl⟩⟩
theorem PI.same {p:zc}{s s':za}{W:Int->Int->Prop}(I:PI p s W) (eH:s'.H=s.H) (eT:s'.T=s.T) (eW:s'.Ws=s.Ws) (eX:s'.Ms=s.Ms):PI p s' W:=by
 have us:∀u j,US s u j->US s' u j:=fun u j h=>⟨fun i x hx=>h.1 i x (by rw [<-eW];exact hx),fun i x hx=>h.2 i x (by rw [<-eX];exact hx)⟩
 have pd:∀o,zkL s o->zkL s' o:=fun o h=>by
  rcases h with ⟨i,x,hx,h⟩ | ⟨i,x,hx,h⟩
  .exact .inl ⟨i,x,by rw [eW];exact hx,h⟩
  .exact .inr ⟨i,x,by rw [eX];exact hx,h⟩
 have P:zo5 s s' W W:=⟨fun o h=>by rw [eT];exact h,fun o h=>.inr (pd o h),fun u j hW hj=>.inl ⟨hW,by rw [eH];exact hj,by rw [eH]⟩,fun u j _ _ hg hu=>.inl ⟨by rw [eT];exact hg,us u j hu⟩,fun u j _ _ h1 h2=>by rw [eT] at h2;exact zk h2 h1⟩
 refine ⟨fun o ho=>?_,fun i x hx=>I.sw i x (by rw [<-eW];exact hx),fun i x hx=>I.sx i x (by rw [<-eX];exact hx),fun i x hx hW=>?_⟩
 .have h0:o≠0:=by have:=ho.in;omega
  rcases I.lv o ho with h | h
  .exact .inl (by rw [eT];exact h)
  .exact P.prot h h0
 .obtain ⟨a,b⟩:=I.cv i x (by rw [<-eX];exact hx) hW;rw [eH,eT];exact ⟨a,b⟩
theorem PI.det {p:zc}{s:za}{W:Int->Int->Prop}(I:PI p s W):PI p (wD s) W:=by
 have hd:=zia s;exact I.same (by conv=>rhs;rw [<-hd]) (by conv=>rhs;rw [<-hd]) (by conv=>rhs;rw [<-hd]) (by conv=>rhs;rw [<-hd])
theorem zxQ {p:zc}(hp:zB p) {nb k:Nat}{s:za}{gh:Gh}{W:Int->Int->Prop}(hk:k<2147480000) (I:EG p nb k s gh) (J:PI p s W) (j:Int):∃gh' W',EG p nb (k+1) (Xi s j) gh'/\PI p (Xi s j) W'/\X6 s (Xi s j):=by
 obtain ⟨gh',I',F⟩:=I.next hp hk j;have fin:(∃W',PI p (Xi s j) W')->∃gh' W',EG p nb (k+1) (Xi s j) gh'/\PI p (Xi s j) W'/\X6 s (Xi s j):=fun ⟨W',h⟩=>⟨gh',W',I',h,F⟩
 refine fin ?_;cases hd:s.Done with
 | true=>rw [zir hd];exact ⟨W,J⟩
 | false =>
  have hwl:=I.G.E.wl;have hml:=I.G.E.ml;unfold Xi;split
  .exact ⟨W,J.det⟩
  split
  .by_cases h1:1<=j
   .exact ⟨W,PI.worker hp (by omega) I.G J (by omega) hd⟩
   .have:zt s j=s:=by unfold zt;rw [zb (.inr (.inl (by omega)))]
    rw [this];exact ⟨W,J⟩
  .by_cases h1:1<=j-(s.Ws.length:Int)/\j-(s.Ws.length:Int)<=(s.Ms.length:Int)
   .exact PI.mutator hp (by omega) I.G J (by omega) hd
   .have:zS s (j-(s.Ws.length:Int))=s:=by unfold zS;rw [yo]
    rw [this];exact ⟨W,J⟩
theorem PI.quiet {p:zc}{s:za}{W:Int->Int->Prop}(J:PI p s W) (hg:∀o,yT s.T o≠1) (hpd:∀o,zkL s o->zP s.T.Marks o=true) {o:Int}(ho:Reach p.H (wN p) o):zP s.T.Marks o=true:=by
 have key:∀q,zjT s W q->zP s.T.Marks q=true:=fun q h=>by
  induction h with
  | pend o h=>exact hpd o h
  | white u j o _ _ _ hu _ ih=>exact zk ih hu
  | grey u j o _ _ _ h _=>exact zk h (hg u)
 rcases J.lv o ho with h | h
 .exact h
 .exact key o h
def NG (s:za):Prop:=∀o,yT s.T o≠1
theorem zxB {p:zc}{nb k:Nat}{s:za}{gh:Gh}(G:FG p nb k s gh) (h:NG s):Zf p s gh=[]:=List.eq_nil_iff_forall_not_mem.2 fun o ho=>h o ((G.B.gr o).1 ho)
structure WE (p:zc) (k:Nat) (s:za):Prop where
 Z:WI p k s
 E:∃gh W,EG p (z7 p+1) k s gh/\PI p s W
 M:s.Ms=(yW p).Ms
 H:s.H=p.H
theorem WE.step {p:zc}(hp:zB p) {k:Nat}{s:za}(hk:k<1000000) (I:WE p k s) {v:Int}(hv:1<=v/\v<=p.Workers):WE p (k+1) (zt s v):=by
 obtain ⟨Z1,_⟩:=I.Z.step hp (by omega) hv;obtain ⟨gh,W,E,J⟩:=I.E;have hwl:=E.G.E.wl;obtain ⟨gh',W',E',J',_⟩:=zxQ hp (by omega) E J v;have e:Xi s v=zt s v:=by
  unfold Xi;rw [ze,yo]
 rw [e] at E' J';refine ⟨Z1,⟨gh',W',E',J'⟩,?_,?_⟩
 .rw [XR E.G.E v];exact I.M
 .rw [XR E.G.E v];exact I.H
theorem WE.black {p:zc}(hp:zB p) {k:Nat}{s:za}(I:WE p k s):∀o,zP s.T.Black o=true->o<=6:=fun o ho=>by
 obtain ⟨gh,W,E,J⟩:=I.E;have h1:=E.G.mrk o (E.G.B.blk o ho);have h2:=hp.n;rw [I.H] at h1;omega
theorem WE.go {p:zc}(hp:zB p):∀(l:List Int) {k:Nat}{s:za},(∀v∈l,1<=v/\v<=p.Workers)->k+l.length<1000000->WE p k s->WE p (k+l.length) (goW s l)
 | [],k,s,_,_,I=>I
 | v::l,k,s,hl,hk,I=>by
  rw [zBv] at hk ⊢;have:=WE.go hp l (fun u hu=>hl u (zBr _ hu)) (by omega) (I.step hp (by omega) (hl v (zBx ..)));rwa [show k+1+l.length=k+(l.length+1) by omega] at this
theorem WE.rounds {p:zc}(hp:zB p) {l:List Int}(hl:∀v∈l,1<=v/\v<=p.Workers) (hlen:l.length<=3):∀(n:Nat) {k:Nat}{s:za},k+3*n<1000000->WE p k s->∃k',k'<=k+3*n/\WE p k' (xF l n s)
 | 0,k,s,_,I=>⟨k,by omega,I⟩
 | n+1,k,s,hk,I=>by
  have I1:=WE.go hp l hl (by omega) I;obtain ⟨k',h2,I2⟩:=WE.rounds hp hl hlen n (k:=k+l.length) (by omega) I1;exact ⟨k',by omega,I2⟩
theorem zmg {p:zc}{s:za}(h:s.Ms=(yW p).Ms):∀x∈s.Ms,yh s x=[]/\x.PC=0/\x.Buf=[]:=fun x hx=>by
 rw [h] at hx;obtain ⟨r,_,e⟩:=zBB.1 (show x∈p.Regs.map ve from hx);rw [<-e];exact ⟨by unfold yh zay;simp [ve],rfl,rfl⟩
theorem zzO {p:zc}(hp:zB p) {k:Nat}{s:za}(hk:k<1000000) (I:WE p k s) (h:NG s) {v:Int}(hv:1<=v/\v<=p.Workers):NG (zt s v)/\∃y y',s.Ws[(v-1).toNat]? =some y/\(zt s v).Ws=s.Ws.set (v-1).toNat y'/\y'.PC≠9:=by
 obtain ⟨gh,W,E,J⟩:=I.E;have G:=E.G;obtain ⟨gh0,S0⟩:=I.Z.I;have hwl:=G.E.wl;obtain ⟨gh',G',_,x,hx,N,C,hb,hT⟩:=G.worker hp (by omega) hv S0.d;have hbag:=zxB G h;have no:∀ {o},o∈zY s x->False:=fun ho=>by
  have:=zc4 (p:=p) (gh:=gh) hx ho;rw [hbag] at this;cases this
 have eS:=zfP S0.d (by omega) hx;have eT:(zt s v).T=(zi s v x).1.T:=by rw [eS]
 have h8:x.PC≠8:=fun e=>no (zaE (.inr (.inr e)));have h6:x.PC≠6:=fun e=>no (zaE (.inr (.inl e)));have h5:x.PC≠5:=fun e=>no (zaE (.inl e));refine ⟨?_,x,(zi s v x).2,hx,by rw [eS],?_⟩
 .rcases hT with ⟨_,_,t⟩ | ⟨_,_,c,_⟩ | ⟨_,_,c,_⟩
  .intro o;rw [eT,t];exact h o
  .exact zk c h6
  .exact zk c h8
 .have O:=G.E.W _ x hx;have hpc:=O.pc;unfold zi;by_cases c01:x.PC=0\/x.PC=1
  .rw [zb c01];dsimp only;split
   .show (5:Int)≠9;decide
   split
   .unfold vh;split
    .show (2:Int)≠9;decide
    .show (1:Int)≠9;decide
   .show x.PC≠9;omega
  rw [zd c01];by_cases c2:x.PC=2
  .rw [zb c2];dsimp only;split
   .show (3:Int)≠9;decide
   split
   .show (0:Int)≠9;decide
   .show x.PC≠9;omega
  rw [zd c2];by_cases c3:x.PC=3
  .rw [zb c3];show (4:Int)≠9;decide
  rw [zd c3];by_cases c4:x.PC=4
  .rw [zb c4];dsimp only;split
   .show (7:Int)≠9;decide
   .show x.PC≠9;omega
  rw [zd c4,zd h5,zd h6];by_cases c7:x.PC=7
  .rw [zb c7];dsimp only;split
   .show (0:Int)≠9;decide
   .show (5:Int)≠9;decide
  rw [zd c7,zd h8,yo];show (7:Int)≠9;decide
theorem zv1 {p:zc}(hp:zB p):∀(l:List Int) {k:Nat}{s:za},(∀v∈l,1<=v/\v<=p.Workers)->k+l.length<1000000->WE p k s->NG s ->
  NG (goW s l)/\∀(i:Nat) y,(goW s l).Ws[i]? =some y->y.PC=9->s.Ws[i]? =some y/\((i:Int)+1)∉l
 | [],k,s,_,_,I,h=>⟨h,fun i y hy _=>⟨hy,by simp⟩⟩
 | v::l,k,s,hl,hk,I,h=>by
  rw [zBv] at hk;have hv:=hl v (zBx ..);obtain ⟨h1,y0,y',e0,e1,e2⟩:=zzO hp (by omega) I h hv;obtain ⟨h2,h3⟩:=zv1 hp l (fun u hu=>hl u (zBr _ hu)) (by omega) (I.step hp (by omega) hv) h1;refine ⟨h2,fun i y hy h9=>?_⟩;obtain ⟨q1,q2⟩:=h3 i y hy h9;rw [e1,zBZ] at q1;split at q1
  .rename_i c;have hi:(v-1).toNat<s.Ws.length:=(zBt.1 e0).1
   first
    | (rw [zb hi] at q1;injection q1 with q1;rw [q1] at e2;exact zk h9 e2)
    | (injection q1 with q1;rw [q1] at e2;exact zk h9 e2)
  .rename_i c;refine ⟨q1,fun hm=>?_⟩;rcases zBG.1 hm with e | e
   .omega
   .exact q2 e
theorem zh2 {p:zc}(hp:zB p) {l:List Int}(hl:∀v∈l,1<=v/\v<=p.Workers) (hlen:l.length<=3):∀(n:Nat) {k:Nat}{s:za},k+3*n<1000000->WE p k s->NG s->NG (xF l n s)
 | 0,k,s,_,I,h=>h
 | n+1,k,s,hk,I,h=>zh2 hp hl hlen n (k:=k+l.length) (by omega) (WE.go hp l hl (by omega) I) (zv1 hp l hl (by omega) I h).1
theorem zzF {t:zA}(h:∀o,zP t.Black o=true->o<=6):3<=nbk t:=by
 unfold nbk;rw [show zC5 9=zC5 6++[6,7,8] from rfl,List.filter_append,zBz];have e:([6,7,8]:List Nat).filter (fun i:Nat=> !zP t.Black ((i:Int)+1))=[6,7,8]:=by
  rw [List.filter_eq_self];intro i hi;have hn: ¬zP t.Black ((i:Int)+1)=true:=fun q=>by
   have:=h _ q;simp at hi;omega
  simpa using hn
 rw [e];exact Nat.le_add_left ..
theorem zz4 {p:zc}(hp:zB p) {l:List Int}(hl:∀v∈l,1<=v/\v<=p.Workers) (hlen:l.length<=3) (hall:∀w,1<=w->w<=p.Workers->w∈l):∀(m:Nat) {k:Nat}{s:za},k+1000*m+1000<1000000->WE p k s->nbk s.T<=m+3->NG (xF l (167*m) s):=by
 intro m
 induction m with
 | zero =>
  intro k s hk I h;intro o ho;obtain ⟨gh,S⟩:=I.Z.I;have hc:=zrv hp S (fun x hx=>(zmg I.M x hx).1) ho;have h1:=ztq hp hl hlen hall (k:=k) (by omega) I.Z hc;obtain ⟨k',_,I'⟩:=WE.rounds hp hl hlen 167 (k:=k) (by omega) I;have:=zzF (I'.black hp);omega
 | succ m ih =>
  intro k s hk I h;obtain ⟨k',hk',I'⟩:=WE.rounds hp hl hlen 167 (k:=k) (by omega) I;rw [show 167*(m+1)=167+167*m by omega,Vi];by_cases g:NG s
  .exact zh2 hp hl hlen _ (k:=k') (by omega) I' (zh2 hp hl hlen 167 (k:=k) (by omega) I g)
  .have:∃o,yT s.T o=1:=Classical.byContradiction fun q=>g (fun o ho=>q ⟨o,ho⟩);obtain ⟨o,ho⟩:=this;obtain ⟨gh,S⟩:=I.Z.I;have hc:=zrv hp S (fun x hx=>(zmg I.M x hx).1) ho;have h1:=ztq hp hl hlen hall (k:=k) (by omega) I.Z hc;exact ih (k:=k') (by omega) I' (by omega)
theorem zxX:∀t:Fin 64,cnt (zC2 64 t.1)=((X9 (zC2 64 t.1)).length:Int):=by decide +kernel
theorem zxD {s:BitVec 64}(h:s&&& ~~~63#64=0#64):cnt s=((X9 s).length:Int):=by
 have hs:s.toNat<64:=by
  have e:s=s&&&63#64:=by
   have:s=(s&&&63#64)|||(s&&& ~~~63#64):=by
    apply zCI;intro i hi;simp only [BitVec.getLsbD_or,zCw,zCQ];cases s.getLsbD i<;>cases (63#64:BitVec 64).getLsbD i<;>simp [hi]
   rw [h,BitVec.or_zero] at this;exact this
  rw [e,zCi];have:s.toNat&&&(63#64:BitVec 64).toNat<=(63#64:BitVec 64).toNat:=Nat.and_le_right;have e63:(63#64:BitVec 64).toNat=63:=by decide
  omega
 have:=zxX ⟨s.toNat,hs⟩;have e:zC2 64 s.toNat=s:=by simp
 rw [e] at this;exact this
theorem zAc {p:zc}(h:zB p):EG p (z7 p+1) 0 (yW p) (gh0 p):=by
 have hms:∀x∈(yW p).Ms,x.PC=0:=fun x hx=>by
  obtain ⟨r,_,e⟩:=zBB.1 (show x∈p.Regs.map ve from hx);rw [<-e];rfl
 have hws:∀x∈(yW p).Ws,∃i:Nat,x=wY p i:=fun x hx=>by
  obtain ⟨j,_,e⟩:=zBB.1 (show x∈(zC5 p.Workers.toNat).map (wY p) from hx);exact ⟨j,e.symm⟩
 have z:∀ {l:List Int},(∀v∈l,v=0)->l.sum=0:=fun {l} h=>by
  induction l with
  | nil=>rfl
  | cons a l ih=>rw [zCn,h a (zBx ..),ih (fun v hv=>h v (zBr _ hv))];rfl
 have ho:zbe (yW p)=0:=by
  unfold zbe;rw [z (fun v hv=>by
   obtain ⟨x,hx,rfl⟩:=zBB.1 hv;obtain ⟨i,rfl⟩:=hws x hx;rfl),z (fun v hv=>by
   obtain ⟨x,hx,rfl⟩:=zBB.1 hv;have:=hms x hx;unfold owX;rw [ze,ze])]
  rfl
 have hold1:(yW p).Ms.flatMap (yh (yW p))=[]:=zaC (fun x hx=>by
  obtain ⟨r,_,e⟩:=zBB.1 (show x∈p.Regs.map ve from hx);rw [<-e];unfold yh;rw [uN ⟨by show (0:Int)≠3;decide,by show (0:Int)≠33;decide,by show (0:Int)≠36;decide,by show (0:Int)≠37;decide,by show (0:Int)≠38;decide⟩];rfl)
 have hold2:(yW p).Ws.flatMap (zY (yW p))=[]:=zaC (fun x hx=>by
  obtain ⟨i,rfl⟩:=hws x hx;have hb:wY p i=Z5 p ((i:Int)+1) (wY p i):=rfl;unfold zY;rw [hb,zgc];rfl)
 have hb:Zf p (yW p) (gh0 p)=X9 (wN p):=by
  unfold Zf;rw [hold1,hold2,zBo,zBo,zuS h]
 have hc:=zxD (zbz h);have hw:(yW p).Work=cnt (wN p):=rfl;have hl:=zh3 h;have hn:=h.n;exact ⟨zwP h,by rw [hb,ho,hw,hc];omega,by rw [hw,hc];omega⟩
theorem zAr {p:zc}(h:zB p):PI p (yW p) (fun _ _=>False):=by
 have hms:∀(i:Nat) x,(yW p).Ms[i]? =some x->x.PC=0:=fun i x hx=>by
  obtain ⟨r,_,e⟩:=zBB.1 (show x∈p.Regs.map ve from zBq hx);rw [<-e];rfl
 have hws:∀(i:Nat) x,(yW p).Ws[i]? =some x->x.PC=0:=fun i x hx=>by
  obtain ⟨j,_,e⟩:=zBB.1 (show x∈(zC5 p.Workers.toNat).map (wY p) from zBq hx);rw [<-e];rfl
 have us:∀u j,US (yW p) u j:=fun u j=>⟨fun i x hx e=>by have:=hws i x hx;omega,fun i x hx e=>by have:=hms i x hx;omega⟩
 refine ⟨fun o ho=>?_,fun i x hx=>?_,fun i x hx=>?_,fun i x hx _=>?_⟩
 .induction ho with
  | root o h1 h2=>exact .inl h1
  | step o v h1 h2 h3 ih =>
   right;have ho:=h1.in;obtain ⟨j,hj⟩:=zCm.1 h2;have hjl:=(zBt.1 hj).1;have hs:xj (yW p).H o (j:Int)=true:=by
    show xj p.H o (j:Int)=true;unfold xj;simp;omega
   have hg:zU (yW p).H o (j:Int)=v:=by
    show zU p.H o (j:Int)=v;unfold zU;rw [zb (show xj p.H o (j:Int)=true from hs),zBp,zCh,hj];rfl
   rcases ih with ih | ih
   .exact .grey o j v (fun e=>e) hs hg ((vu _ _).2 ⟨ih,XB o⟩) (us _ _)
   .by_cases hm:zP (yW p).T.Marks o=true
    .exact .grey o j v (fun e=>e) hs hg ((vu _ _).2 ⟨hm,XB o⟩) (us _ _)
    .exact .white o j v (fun e=>e) hs hg hm ih
 .have:=hws i x hx;exact ⟨fun e=>by omega,fun e=>by omega,fun e=>by omega⟩
 .have:=hms i x hx;exact ⟨fun e=>by omega,fun e=>by omega,fun e=>by omega⟩
 .have:=hms i x hx;exact ⟨fun e=>by omega,fun e=>by omega⟩
def LvH (p:zc) (h:zC) (o:Int):Prop:=Reach p.H (wN p) o\/((p.H.Objs.length:Int)<o/\o<=(h.Objs.length:Int))
def WJ (p:zc) (h:zC):Prop:=∀o v,LvH p h o->v∈zV h o->v=0\/LvH p h v
def Y4 (p:zc) (h:zC) (r:List Int):Prop:=∀v∈r,v=0\/LvH p h v
theorem LvH.mono {p:zc}{h h':zC}(hl:h.Objs.length<=h'.Objs.length) {o:Int}(L:LvH p h o):LvH p h' o:=by
 rcases L with L | L
 .exact .inl L
 .exact .inr (by omega)
theorem LvH.inn {p:zc}{h:zC}(hn:(p.H.Objs.length:Int)<=(h.Objs.length:Int)) {o:Int}(L:LvH p h o):1<=o/\o<=(h.Objs.length:Int):=by
 rcases L with L | L
 .have:=L.in;omega
 .omega
theorem LvH.in {p:zc}(hp:zB p) {h:zC}(hn:(p.H.Objs.length:Int)<=(h.Objs.length:Int)) {o:Int}(L:LvH p h o):1<=o/\o<=(h.Objs.length:Int):=L.inn hn
theorem Y4.mono {p:zc}{h h':zC}(hl:h.Objs.length<=h'.Objs.length) {r:List Int}(R:Y4 p h r):Y4 p h' r:=fun v hv=>(R v hv).imp id (fun L=>L.mono hl)
theorem Y4.set {p:zc}{h:zC}{r:List Int}(R:Y4 p h r) {v:Int}(hv:v=0\/LvH p h v) (i:Nat):Y4 p h (r.set i v):=fun u hu=>by
 rcases zBX hu with h | rfl
 .exact R u h
 .exact hv
theorem Y4.reg {p:zc}{h:zC}{x:zg}(R:Y4 p h x.Regs) (r:Int):uF x r=0\/LvH p h (uF x r):=by
 unfold uF;rw [zBp];cases hx:x.Regs[r.toNat]? with
 | none=>exact .inl rfl
 | some v=>exact R v (zBq hx)
theorem zfS {p:zc}{h:zC}(C:WJ p h) {a:Int}(ha:a=0\/LvH p h a) (i:Int):zU h a i=0\/LvH p h (zU h a i):=by
 unfold zU;split
 .rename_i hs;simp only [xj,zBl,decide_eq_true_eq] at hs;have L:LvH p h a:=ha.resolve_left (by omega);rw [zBp];cases hx:(zV h a)[i.toNat]? with
  | none=>exact .inl rfl
  | some v=>exact C a v L (zBq hx)
 .exact .inl rfl
theorem zvr {p:zc}{h:zC}(C:WJ p h) {a i v:Int}(hv:v=0\/LvH p h v):WJ p (Zw h a i v):=by
 intro o w L hw;have hl:=VP h a i v;have L':LvH p h o:=L.mono (by omega);have up:∀ {u:Int},(u=0\/LvH p h u)->(u=0\/LvH p (Zw h a i v) u):=fun hu=>hu.imp id (fun L=>L.mono (by omega));unfold Zw at hw;split at hw
 .rename_i hs;obtain ⟨hs,_⟩:=hs;simp only [xj,zBl,decide_eq_true_eq] at hs;have hw:w∈(h.Objs.set (a-1).toNat ((zV h a).set i.toNat v)).getD (o-1).toNat []:=hw;rw [zn7 (by omega)] at hw;split at hw
  .rename_i e;have es:zV h a=zV h o:=by unfold zV;rw [e]
   rcases zBX hw with h1 | rfl
   .exact up (C o w L' (es▸h1))
   .exact up hv
  .exact up (C o w L' hw)
 .exact up (C o w L' hw)
theorem ztL {p:zc}{h:zC}(hn:(p.H.Objs.length:Int)<=(h.Objs.length:Int)) (C:WJ p h):WJ p (wK h):=by
 intro o w L hw;have hl:=VX h;have hin:=L.inn (by omega);by_cases ho:o<=(h.Objs.length:Int)
 .have L':LvH p h o:=by
   rcases L with L | L
   .exact .inl L
   .exact .inr (by omega)
  have e:zV (wK h) o=zV h o:=by
   unfold zV wK;rw [zBp,zBp,zBM (by omega)]
  rw [e] at hw;exact (C o w L' hw).imp id (fun L=>L.mono (by omega))
 .have e:zV (wK h) o=zC3 h.Slots.toNat 0:=by
   unfold zV wK;rw [zBp,zBS (by omega),show (o-1).toNat-h.Objs.length=0 by omega];rfl
  rw [e] at hw;exact .inl (zC0 hw)
structure RgI (p:zc) (s:za):Prop where
 hp:WJ p s.H
 rg:∀x∈s.Ms,Y4 p s.H x.Regs
theorem zzy {p:zc}{s:za}{m:Int}{x:zg}(hN:(p.H.Objs.length:Int)<=(s.H.Objs.length:Int)) (h9:s.H.Objs.length<1000000) (C:WJ p s.H) (R:Y4 p s.H x.Regs) :
  WJ p (zq s m x).1.H/\Y4 p (zq s m x).1.H (zq s m x).2.Regs/\s.H.Objs.length<=(zq s m x).1.H.Objs.length:=by
 have same:∀ {t:za}{y:zg},t.H=s.H->y.Regs=x.Regs->WJ p t.H/\Y4 p t.H y.Regs/\s.H.Objs.length<=t.H.Objs.length:=fun e1 e2=>by rw [e1,e2];exact ⟨C,R,zBm _⟩
 refine xV (motive:=fun r=>WJ p r.1.H/\Y4 p r.1.H r.2.Regs/\s.H.Objs.length<=r.1.H.Objs.length) s m x ?_ ?_ ?_ ?_ ?_ ?_ ?_ ?_ ?_ ?_ ?_ ?_ ?_ ?_ ?_ ?_ ?_ ?_ ?_ ?_
 .intro c;unfold mu0 zaj;split
  .exact same rfl rfl
  split
  .exact same rfl rfl
  split
  .exact same rfl rfl
  split
  .exact same rfl rfl
  split
  .exact same rfl rfl
  split
  .exact ⟨C,R.set (R.reg _) _,zBm _⟩
  .exact ⟨C,R.set (.inl rfl) _,zBm _⟩
 .intro c;unfold mu1;split<;>exact same rfl rfl
 .intro c;unfold mu2;exact same rfl rfl
 .intro c;unfold mu3;refine same (by rw [uJ]) ?_;dsimp only;split<;>rfl
 .intro c;unfold zg0;exact ⟨C,R.set (zfS C (R.reg _) _) _,zBm _⟩
 .intro c;unfold zdH;refine same rfl ?_;dsimp only;split<;>rfl
 .intro c;unfold zd7;refine same rfl ?_;dsimp only;split<;>rfl
 .intro c;unfold zdz;refine same rfl ?_;dsimp only;split<;>rfl
 .intro c;unfold zfD;have hl:=VP s.H (uF x (opM s.P m x).A) (opM s.P m x).S (uF x (opM s.P m x).R);exact ⟨zvr C (R.reg _),R.mono (by dsimp only;omega),by dsimp only;omega⟩
 .intro c;unfold U0;split
  .split
   .have hl:=VX s.H;have w:wc ((s.H.Objs.length:Int)+1)=(s.H.Objs.length:Int)+1:=yP;refine ⟨ztL hN C,?_,by dsimp only;omega⟩;refine Y4.set (R.mono (by dsimp only;omega)) (.inr (.inr ?_)) _;rw [w];exact ⟨by omega,by dsimp only;omega⟩
   .exact same rfl rfl
  .exact same rfl rfl
 .intro c;unfold zea;refine same rfl ?_;dsimp only;split<;>rfl
 .intro c;unfold zdD;refine same rfl ?_;dsimp only;repeat' split
  all_goals rfl
 .intro c;unfold zhw;exact same rfl rfl
 .intro c;unfold zdX;refine same rfl ?_;dsimp only;split<;>rfl
 .intro c;unfold zdG;refine same rfl ?_;dsimp only;split<;>rfl
 .intro c;unfold zd4;refine same rfl ?_;dsimp only;split<;>rfl
 .intro c;unfold UY;refine same (by rw [uJ]) ?_;dsimp only;split<;>rfl
 .intro c;unfold zfi;exact same rfl rfl
 .intro c;unfold zhe;exact same rfl rfl
 .exact same rfl rfl
theorem zw2 {p:zc}(hp:zB p) {s:za}{m:Int}{x:zg}(hn:HOk p s.H) (C:WJ p s.H) (R:Y4 p s.H x.Regs) :
  WJ p (zq s m x).1.H/\Y4 p (zq s m x).1.H (zq s m x).2.Regs/\s.H.Objs.length<=(zq s m x).1.H.Objs.length:=by
 have hN:=hn.n;have hM:=hp.most;have hn6:=hp.n;exact zzy hN.1 (by omega) C R
theorem RgI.step {p:zc}{nb:Nat}(hp:zB p) {s:za}(E:EOk p nb s) (I:RgI p s) (m:Int):RgI p (zS s m):=by
 unfold zS;split
 .exact I
 cases hx:s.Ms[(m-1).toNat]? with
 | none=>exact I
 | some x =>
  obtain ⟨h1,h2,h3⟩:=zw2 (m:=m) hp E.H I.hp (I.rg x (zBq hx));refine ⟨h1,fun y hy=>?_⟩;rcases zBX hy with hy | rfl
  .exact (I.rg y hy).mono h3
  .exact h2
def QL (p:zc) (h:zC) (v:Int):Prop:=v=0\/LvH p h v
theorem QL.mono {p:zc}{h h':zC}(hl:h.Objs.length<=h'.Objs.length) {v:Int}(q:QL p h v):QL p h' v:=q.imp id (fun L=>L.mono hl)
structure BN (p:zc) (s:za):Prop where
 rg:RgI p s
 mkd:∀o,zP s.T.Marks o=true->LvH p s.H o
 gw:∀x∈s.Ws,x.PC=6->QL p s.H x.G.Obj
 bq:∀x∈s.Ms,zlg (QL p s.H) x
theorem zlg.mono {Q Q':Int->Prop}(h:∀v,Q v->Q' v) {x:zg}(b:zlg Q x):zlg Q' x:=⟨fun v hv=>h v (b.1 v hv),h _ b.2.1,fun e=>h _ (b.2.2 e)⟩
theorem BN.same {p:zc}{s s':za}(B:BN p s) (eH:s'.H=s.H) (eT:s'.T=s.T) (eW:s'.Ws=s.Ws) (eX:s'.Ms=s.Ms):BN p s' :=
 ⟨⟨by rw [eH];exact B.rg.hp,by rw [eH,eX];exact B.rg.rg⟩,by rw [eH,eT];exact B.mkd,by rw [eH,eW];exact B.gw,by rw [eH,eX];exact B.bq⟩
theorem BN.held {p:zc}{nb k:Nat}{s:za}{gh:Gh}(B:BN p s) (G:FG p nb k s gh) {o:Int}(h:o∈Zf p s gh):LvH p s.H o:=B.mkd o ((vu _ _).1 ((G.B.gr o).1 h)).1
theorem zwZ {s:za}{x:zh}(h:x.PC=5\/x.PC=6\/x.PC=8):x.Obj∈zY s x:=by
 unfold zY W7;refine zBJ _ ?_;rw [ze,ze];by_cases h6:x.PC=6
 .rw [ze,zb h6];simp
 .rw [yo];simp
theorem zrm {s:za}{x:zg}(h:x.PC=36\/x.PC=37\/x.PC=38):x.Obj∈yh s x:=by
 unfold yh zay;refine zBJ _ ?_;rw [ze];by_cases h6:x.PC=37
 .rw [ze,zb h6];simp
 .rw [yo];simp
theorem zwj {p:zc}{h:zC}{m:BitVec 64}{o:Int}(hm:∀q,zP m q=true->LvH p h q) (ho:LvH p h o):∀q,zP (m|||bit o) q=true->LvH p h q:=fun q hq=>(ZS hq).elim (hm q) (fun e=>e▸ho)
theorem BN.worker {p:zc}(hp:zB p) {nb k:Nat}{s:za}{gh:Gh}(hk:k<4294960000) (B:BN p s) (G:FG p nb k s gh) {w:Int}(hw:1<=w/\w<=p.Workers) (hd:s.Done=false):BN p (zt s w):=by
 obtain ⟨gh',G',_,x,hx,N,C,_,hT⟩:=G.worker hp hk hw hd;have hwl:=G.E.wl;have hm:=zBq hx;have hf:=XR G.E w;have eH:(zt s w).H=s.H:=by rw [hf]
 have eX:(zt s w).Ms=s.Ms:=by rw [hf]
 have e0: ¬(s.Done=true\/w<1\/(s.Ws.length:Int)<w):=by rw [hd];rintro (e | e | e)<;>first | cases e | omega
 have es:zt s w={(zi s w x).1 with Ws:=s.Ws.set (w-1).toNat (zi s w x).2}:=by unfold zt;rw [zd e0,hx]
 have eT:(zt s w).T=(zi s w x).1.T:=by rw [es]
 have eW:(zt s w).Ws=s.Ws.set (w-1).toNat (zi s w x).2:=by rw [es]
 have hi:=(zBt.1 hx).1;refine ⟨⟨by rw [eH];exact B.rg.hp,by rw [eH,eX];exact B.rg.rg⟩,?_,?_,by rw [eH,eX];exact B.bq⟩
 .rw [eH,eT];rcases hT with ⟨_,_,t⟩ | ⟨_,_,h6,_,t⟩ | ⟨_,_,_,t⟩
  .rw [t];exact B.mkd
  .rw [t];have hob:=((G.W _ x hx).p6 h6).1.ob;exact zwj B.mkd ((B.gw x hm h6).resolve_left (by omega))
  .rw [t,(zaO s.T x.Obj).1];exact B.mkd
 .rw [eH,eW];intro y hy h6;rcases zBX hy with hy | rfl
  .exact B.gw y hy h6
  .rcases zkl s w x h6 with ⟨a,b⟩ | ⟨a,b⟩
   .rw [b];exact B.gw x hm a
   .rw [b];exact zfS B.rg.hp (.inr (B.held G (zc4 hx (zwZ (.inl a))))) _
theorem BN.mutator {p:zc}(hp:zB p) {nb k:Nat}{s:za}{gh:Gh}(hk:k<4294960000) (B:BN p s) (G:FG p nb k s gh) {m:Int}(hm:1<=m/\m<=p.Mutators) (hd:s.Done=false):BN p (zS s m):=by
 obtain ⟨gh',G',F,x,hx,N,C,_,hT⟩:=G.mutator hp hk hm hd;have hml:=G.E.ml;have hmem:=zBq hx;have hX:=G.E.X _ x hx;have e0: ¬(s.Done=true\/m<1\/(s.Ms.length:Int)<m):=by rw [hd];rintro (e | e | e)<;>first | cases e | omega
 have es:zS s m={(zq s m x).1 with Ms:=s.Ms.set (m-1).toNat (zq s m x).2}:=by unfold zS;rw [zd e0,hx]
 have hR:=B.rg.step hp G.E m;have hrg:=zw2 (m:=m) hp G.E.H B.rg.hp (B.rg.rg x hmem);have eW:(zS s m).Ws=s.Ws:=by rw [es];show (zq s m x).1.Ws=_;rw [zio]
 have eT:(zS s m).T=(zq s m x).1.T:=by rw [es]
 have eH:(zS s m).H=(zq s m x).1.H:=by rw [es]
 have eM:(zS s m).Ms=s.Ms.set (m-1).toNat (zq s m x).2:=by rw [es]
 have up:∀ {v:Int},LvH p s.H v->LvH p (zq s m x).1.H v:=fun L=>L.mono hrg.2.2;have uq:∀v,QL p s.H v->QL p (zq s m x).1.H v:=fun v q=>q.mono hrg.2.2;refine ⟨hR,?_,?_,?_⟩
 .rw [eH,eT];rcases hT with ⟨_,_,t⟩ | ⟨_,_,h3,_,t⟩ | ⟨_,_,_,t⟩ | ⟨_,_,_,_,t3,t4⟩
  .rw [t];exact fun o ho=>up (B.mkd o ho)
  .rw [t];have hob:1<=x.G.Obj:=by
    rcases h3 with h | h
    .exact ((G.M _ x hx).p3 h).1.ob.1
    .exact ((G.M _ x hx).p37 h).1.ob.1
   exact zwj (fun o ho=>up (B.mkd o ho)) (up (((B.bq x hmem).2.2 h3).resolve_left (by omega)))
  .rw [t,(zaO s.T x.Obj).1];exact fun o ho=>up (B.mkd o ho)
  .intro o ho;have hF:=(G.tints F).1;have hle:=hF o (by rw [eT];exact ho);rw [eH] at hle;by_cases hl:o<=(p.H.Objs.length:Int)
   .rw [t4] at ho;have hN:=G.E.H.n;have hM0:=hp.most;have hn6:=hp.n;have nm: ¬zP s.T.Marks ((s.H.Objs.length:Int)+1)=true:=fun e=>by have:=G.mrk _ e;omega
    have nb': ¬zP s.T.Black ((s.H.Objs.length:Int)+1)=true:=fun e=>nm (G.B.blk _ e);rw [yP,zhx (by omega) nm nb'] at ho;rcases ZS ho with ho | rfl
    .exact up (B.mkd o ho)
    .omega
   .exact .inr ⟨by omega,hle⟩
 .rw [eH,eW];exact fun y hy h6=>uq _ (B.gw y hy h6)
 .rw [eH,eM];intro y hy;have em:(((m-1).toNat:Nat):Int)+1=m:=by omega
  rw [em] at hX;rcases zBX hy with hy | rfl
  .exact (B.bq y hy).mono uq
  .refine (ztn (s:=s) (m:=m) hX (Q:=QL p s.H) (.inl rfl) (fun r i=>zfS B.rg.hp ((B.rg.rg x hmem).reg r) i) (fun c=>?_) (B.bq x hmem)).mono uq;exact zfS B.rg.hp (.inr (B.held G (zlM hx (zrm (.inl c))))) _
theorem BN.next {p:zc}(hp:zB p) {nb k:Nat}{s:za}{gh:Gh}(hk:k<4294960000) (B:BN p s) (G:FG p nb k s gh) (j:Int):BN p (Xi s j):=by
 cases hd:s.Done with
 | true=>rw [zir hd];exact B
 | false =>
  have hwl:=G.E.wl;have hml:=G.E.ml;unfold Xi;split
  .have hf:=zia s;exact B.same (by conv=>rhs;rw [<-hf]) (by conv=>rhs;rw [<-hf]) (by conv=>rhs;rw [<-hf]) (by conv=>rhs;rw [<-hf])
  split
  .by_cases h1:1<=j
   .exact B.worker hp hk G (by omega) hd
   .have:zt s j=s:=by unfold zt;rw [zb (.inr (.inl (by omega)))]
    rw [this];exact B
  .by_cases h1:1<=j-(s.Ws.length:Int)/\j-(s.Ws.length:Int)<=(s.Ms.length:Int)
   .exact B.mutator hp hk G (by omega) hd
   .have:zS s (j-(s.Ws.length:Int))=s:=by unfold zS;rw [yo]
    rw [this];exact B
theorem zyq (s:za) (w:Int) (x:zh):(zi s w x).1.L=if x.PC=8 then Yi s.L 0 else s.L:=by
 by_cases h8:x.PC=8
 .rw [zb h8];unfold zi;rw [ze,ze,ze,ze,ze,ze,ze,zb h8]
 .rw [zd h8];unfold zi;split
  .rfl
  split
  .rfl
  split
  .rfl
  split
  .rfl
  split
  .rfl
  split
  .obtain ⟨m,b,t,wk,f,e,_⟩:=zaH s x.G;dsimp only;rw [e]
  split
  .rfl
  split<;>rfl
theorem zzd (s:za) (m:Int) (x:zg) :
  (x.PC=38/\(zq s m x).1.L=Yi s.L m) \/
  (x.PC≠38/\(zq s m x).1.H.Objs.length=s.H.Objs.length/\((zq s m x).1.L=s.L\/∃w,(zq s m x).1.L=(zbI s.L m w).1)) \/
  (x.PC=30/\(zq s m x).1.H=wK s.H/\(zq s m x).1.L=Ux s.L m s.P.Price/\ziE s.L m s.P.Price s.P.Limit=true/\W3 s.H s.P.Most=true):=by
 by_cases c38:x.PC=38
 .refine .inl ⟨c38,?_⟩;unfold zq;rw [ze,ze,ze,ze,ze,ze,ze,ze,ze,ze,ze,ze,ze,ze,ze,ze,ze,zb c38];rfl
 refine .inr ?_;refine xV (motive:=fun r=>(x.PC≠38/\r.1.H.Objs.length=s.H.Objs.length/\(r.1.L=s.L\/∃w,r.1.L=(zbI s.L m w).1))\/(x.PC=30/\r.1.H=wK s.H/\r.1.L=Ux s.L m s.P.Price/\ziE s.L m s.P.Price s.P.Limit=true/\W3 s.H s.P.Most=true)) s m x ?_ ?_ ?_ ?_ ?_ ?_ ?_ ?_ ?_ ?_ ?_ ?_ ?_ ?_ ?_ ?_ ?_ ?_ ?_ ?_
 .exact fun _=>.inl ⟨c38,rfl,.inl rfl⟩
 .exact fun _=>.inl ⟨c38,rfl,.inl rfl⟩
 .exact fun _=>.inl ⟨c38,rfl,.inl rfl⟩
 .intro _;unfold mu3;exact .inl ⟨c38,by rw [uJ],.inl (by rw [uJ])⟩
 .exact fun _=>.inl ⟨c38,rfl,.inl rfl⟩
 .exact fun _=>.inl ⟨c38,rfl,.inl rfl⟩
 .exact fun _=>.inl ⟨c38,rfl,.inl rfl⟩
 .exact fun _=>.inl ⟨c38,rfl,.inl rfl⟩
 .exact fun _=>.inl ⟨c38,VP _ _ _ _,.inl rfl⟩
 .intro c;unfold U0;split
  .split
   .rename_i h1 h2;exact .inr ⟨c,rfl,rfl,h1,h2⟩
   .exact .inl ⟨c38,rfl,.inl rfl⟩
  .exact .inl ⟨c38,rfl,.inl rfl⟩
 .exact fun _=>.inl ⟨c38,rfl,.inr ⟨_,rfl⟩⟩
 .exact fun _=>.inl ⟨c38,rfl,.inl rfl⟩
 .exact fun _=>.inl ⟨c38,rfl,.inl rfl⟩
 .exact fun _=>.inl ⟨c38,rfl,.inl rfl⟩
 .exact fun _=>.inl ⟨c38,rfl,.inl rfl⟩
 .exact fun _=>.inl ⟨c38,rfl,.inl rfl⟩
 .intro _;unfold UY;exact .inl ⟨c38,by rw [uJ],.inl (by rw [uJ])⟩
 .exact fun c=>zk c c38
 .exact fun _=>.inl ⟨c38,rfl,.inl rfl⟩
 .exact .inl ⟨c38,rfl,.inl rfl⟩
structure LdG (p:zc) (c d:Int) (l:zD):Prop where
 len:(l.Bal.length:Int)=p.Mutators
 sc:l.Scanned=c
 sp:l.Spent=p.Price*d
 pool:0<=l.Pool
 bal:∀b∈l.Bal,-p.Limit<=b
 sum:l.Pool+l.Bal.sum=c-p.Price*d
theorem zu0 {a:Int}(ha:0<=a):∀ {l:List Int},(∀b∈l,-a<=b)-> -(a*(l.length:Int))<=l.sum/\∀b∈l,b<=l.sum+a*(l.length:Int)
 | [],_=>⟨by simp,fun b hb=>by cases hb⟩
 | x::l,h=>by
  obtain ⟨i1,i2⟩:=zu0 ha (l:=l) (fun b hb=>h b (zBr _ hb));have hx:=h x (zBx ..);have e:a*((x::l).length:Int)=a*(l.length:Int)+a:=by rw [zBv,Int.natCast_add,Int.mul_add];simp
  rw [zCn,e];refine ⟨by omega,fun b hb=>?_⟩;rcases zBG.1 hb with rfl | hb
  .omega
  .have:=i2 b hb;omega
theorem LdG.low {p:zc}(hp:zB p) {c d:Int}(hc:0<=c/\c<=9) (hd:0<=d/\d<=9) {l:zD}(I:LdG p c d l):(0<=p.Price*d/\p.Price*d<=30)/\l.Pool<=20/\∀b∈l.Bal,-3<=b/\b<=20:=by
 have hl:=hp.limit;have hm:=hp.mt;have hpr:=zsY hp.price (d:=d) (by omega);obtain ⟨s1,s2⟩:=zu0 hl.1 I.bal;have hlen:=I.len;rw [hlen] at s1 s2;have hb:0<=p.Limit*p.Mutators/\p.Limit*p.Mutators<=6:=by
  refine ⟨Int.mul_nonneg hl.1 hm.1,?_⟩;have:=Int.mul_le_mul hl.2 hm.2 hm.1 (by decide:(0:Int)<=3);omega
 have hs:=I.sum;have hpo:=I.pool;refine ⟨hpr,by omega,fun b hb'=>?_⟩;have:=s2 b hb';have:=I.bal b hb';omega
theorem zqJ {l:List Int}{i:Nat}(h:i<l.length):l.getD i 0∈l:=by
 rw [zBp,zBn h];exact zBU h
theorem LdG.earn {p:zc}(hp:zB p) {c d:Int}(hc:0<=c/\c<=9) (hd:0<=d/\d<=9) {l:zD}(I:LdG p c d l) (w:Int):LdG p (c+1) d (Yi l w):=by
 obtain ⟨h1,h2,h3⟩:=I.low hp hc hd;have hs:=I.sc;have hsum:=I.sum;unfold Yi;rw [yP (a:=l.Scanned+1) (by omega) (by omega)];split
 .rename_i hw;have hm:=zqJ (l:=l.Bal) (i:=(w-1).toNat) (by omega);have hb:=h3 _ hm;have hb':=I.bal _ hm;rw [yP];refine ⟨by dsimp only;rw [zBF];exact I.len,by dsimp only;omega,I.sp,I.pool,fun b h=>?_,?_⟩
  .rcases zBX h with h | rfl
   .exact I.bal b h
   .omega
  .dsimp only;rw [zd3 _ _ _ (by omega)];omega
 .have hpo:=I.pool;rw [yP];exact ⟨I.len,by dsimp only;omega,I.sp,by dsimp only;omega,I.bal,by dsimp only;omega⟩
theorem LdG.take {p:zc}(hp:zB p) {c d:Int}(hc:0<=c/\c<=9) (hd:0<=d/\d<=9) {l:zD}(I:LdG p c d l) (m w:Int):LdG p c d (zbI l m w).1:=by
 obtain ⟨h1,h2,h3⟩:=I.low hp hc hd;have hsum:=I.sum;have hpo:=I.pool;unfold zbI;split
 .rename_i hw;obtain ⟨ht,h0⟩:=hw;unfold zlv at ht;simp only [zBl,decide_eq_true_eq] at ht;have hmn:zmb w l.Pool<=l.Pool:=by unfold zmb;split<;>omega
  have hm:=zqJ (l:=l.Bal) (i:=(m-1).toNat) (by omega);have hb:=h3 _ hm;have hb':=I.bal _ hm;unfold zf1;generalize zmb w l.Pool=n at h0 hmn;rw [yP (a:=l.Pool-n) (by omega) (by omega),yP];refine ⟨by dsimp only;rw [zBF];exact I.len,I.sc,I.sp,by dsimp only;omega,fun b h=>?_,?_⟩
  .rcases zBX h with h | rfl
   .exact I.bal b h
   .omega
  .dsimp only;rw [zd3 _ _ _ (by omega)];omega
 .exact I
theorem LdG.spend {p:zc}(hp:zB p) {c d:Int}(hc:0<=c/\c<=9) (hd:0<=d/\d<=9) {l:zD}(I:LdG p c d l) {m:Int}(h:ziE l m p.Price p.Limit=true):LdG p c (d+1) (Ux l m p.Price):=by
 obtain ⟨h1,h2,h3⟩:=I.low hp hc hd;have hsum:=I.sum;have hpo:=I.pool;have hl:=hp.limit;have hpr:=hp.price;have e1:=I.sp;unfold ziE zmn zlv at h;simp only [zBl,decide_eq_true_eq] at h;obtain ⟨⟨⟨⟨⟨⟨m1,m2⟩,_⟩,_⟩,_⟩,_⟩,h⟩:=h;have hm:=zqJ (l:=l.Bal) (i:=(m-1).toNat) (by omega);have hb:=h3 _ hm;unfold zf1 at h;rw [yP,yP] at h;unfold Ux zf1;rw [yP,yP];refine ⟨by dsimp only;rw [zBF];exact I.len,I.sc,by dsimp only;rw [zlz hpr];omega,I.pool,fun b hb'=>?_,?_⟩
 .rcases zBX hb' with h2 | rfl
  .exact I.bal b h2
  .omega
 .dsimp only;rw [zd3 _ _ _ (by omega),zlz hpr];omega
def Wx (p:zc) (s:za):BitVec 64:=s.T.Black&&&wR (p.H.Objs.length:Int)
structure PD (p:zc) (s:za):Prop where
 L:LdG p (cnt (Wx p s)) ((s.H.Objs.length:Int)-(p.H.Objs.length:Int)) s.L
theorem zzc {p:zc}(hp:zB p) (s:za):∀o,zP (Wx p s) o=true->o<=9:=fun o ho=>by
 have hn:=hp.n;have:=(Uk (n:=p.H.Objs.length) (by omega) o).1 ((Zp _ _ _).1 ho).2;omega
theorem zjW (s:BitVec 64):0<=cnt s:=by
 unfold cnt;rw [zCE,zCi];have h1:(zC4 64 (zvc s).toInt).toNat&&&(zC4 64 127).toNat<=(zC4 64 127).toNat:=Nat.and_le_right;have h2:(zC4 64 127).toNat=127:=by decide
 split<;>omega
theorem zsz {p:zc}(hp:zB p) {nb k:Nat}{s:za}{gh:Gh}(G:FG p nb k s gh) {o:Int}(ho:yT s.T o=1) {t:zA}(ht:t=xP s.T o):cnt (t.Black&&&wR (p.H.Objs.length:Int))=cnt (Wx p s)+1:=by
 have hn:=hp.n;have hg:=(vu _ _).1 ho;have hr:=Xv ho;have hle:=G.mrk o hg.1;have hold:o<=(p.H.Objs.length:Int):=Int.not_lt.1 fun h=>hg.2 (G.bk o h hle);have e:t.Black&&&wR (p.H.Objs.length:Int)=Wx p s|||bit o:=by
  subst ht;unfold xP Wx;rw [zb ho];refine zgs (fun q=>?_);rw [Zp,vw,vw,Zp];constructor
  .rintro ⟨a | a,b⟩
   .exact .inl ⟨a,b⟩
   .exact .inr a
  .rintro (⟨a,b⟩ | a)
   .exact ⟨.inl a,b⟩
   .have:=ztP a;subst this;exact ⟨.inr a,(Uk (by omega) q).2 ⟨hr.1,hold⟩⟩
 rw [e];exact zwT (zzc hp s) ⟨hr.1,by omega⟩ (fun h=>hg.2 ((Zp _ _ _).1 h).1)
theorem PD.same {p:zc}{s s':za}(I:PD p s) (eH:s'.H.Objs.length=s.H.Objs.length) (eB:s'.T.Black=s.T.Black) (eL:s'.L=s.L):PD p s':=by
 refine ⟨?_⟩;unfold Wx;rw [eH,eB,eL];exact I.L
theorem PD.next {p:zc}(hp:zB p) {nb k:Nat}{s:za}{gh:Gh}(hk:k<4294960000) (I:PD p s) (G:FG p nb k s gh) (j:Int):PD p (Xi s j):=by
 have hN:=G.E.H.n;have hn:=hp.n;have hmo:=hp.most;have hc:0<=cnt (Wx p s)/\cnt (Wx p s)<=9:=⟨zjW _,zj4 (zzc hp s)⟩
 have hdd:0<=(s.H.Objs.length:Int)-(p.H.Objs.length:Int)/\(s.H.Objs.length:Int)-(p.H.Objs.length:Int)<=9:=by omega
 cases hd:s.Done with
 | true=>rw [zir hd];exact I
 | false =>
  have hwl:=G.E.wl;have hml:=G.E.ml;unfold Xi;split
  .have hf:=zia s;exact I.same (by conv=>rhs;rw [<-hf]) (by conv=>rhs;rw [<-hf]) (by conv=>rhs;rw [<-hf])
  split
  .by_cases h1:1<=j;rotate_left
   .have:zt s j=s:=by unfold zt;rw [zb (.inr (.inl (by omega)))]
    rw [this];exact I
   obtain ⟨gh',G',_,x,hx,N,C,hb,hT⟩:=G.worker hp hk (show 1<=j/\j<=p.Workers by omega) hd;have e0: ¬(s.Done=true\/j<1\/(s.Ws.length:Int)<j):=by rw [hd];rintro (e | e | e)<;>first | cases e | omega
   have es:zt s j={(zi s j x).1 with Ws:=s.Ws.set (j-1).toNat (zi s j x).2}:=by unfold zt;rw [zd e0,hx]
   have eH:(zt s j).H=s.H:=by rw [XR G.E j]
   have eT:(zt s j).T=(zi s j x).1.T:=by rw [es]
   have eL:(zt s j).L=if x.PC=8 then Yi s.L 0 else s.L:=by rw [es];exact zyq s j x
   by_cases h8:x.PC=8
   .rw [zb h8] at eL;have hg:yT s.T x.Obj=1:=(G.B.gr _).1 (zc4 hx (by unfold zY W7;rw [ze,ze,zb (.inr h8)];simp));have ht:(zi s j x).1.T=xP s.T x.Obj:=by
     unfold zi;rw [ze,ze,ze,ze,ze,ze,ze,zb h8]
    refine ⟨?_⟩;have ec:cnt (Wx p (zt s j))=cnt (Wx p s)+1:=by
     unfold Wx at *;rw [eT];exact zsz hp G hg ht
    rw [ec,eH,eL];exact I.L.earn hp hc hdd 0
   .rw [zd h8] at eL;refine I.same (by rw [eH]) ?_ eL;rw [eT];rcases hT with ⟨_,_,t⟩ | ⟨_,_,_,_,t⟩ | ⟨_,_,h,_⟩
    .rw [t]
    .rw [t]
    .exact zk h h8
  .by_cases h1:1<=j-(s.Ws.length:Int)/\j-(s.Ws.length:Int)<=(s.Ms.length:Int);rotate_left
   .have:zS s (j-(s.Ws.length:Int))=s:=by unfold zS;rw [yo]
    rw [this];exact I
   generalize j-(s.Ws.length:Int)=m at h1 ⊢;obtain ⟨gh',G',_,x,hx,N,C,hb,hT⟩:=G.mutator hp hk (show 1<=m/\m<=p.Mutators by omega) hd;have e0: ¬(s.Done=true\/m<1\/(s.Ms.length:Int)<m):=by rw [hd];rintro (e | e | e)<;>first | cases e | omega
   have es:zS s m={(zq s m x).1 with Ms:=s.Ms.set (m-1).toNat (zq s m x).2}:=by unfold zS;rw [zd e0,hx]
   have eH:(zS s m).H=(zq s m x).1.H:=by rw [es]
   have eT:(zS s m).T=(zq s m x).1.T:=by rw [es]
   have eL:(zS s m).L=(zq s m x).1.L:=by rw [es]
   have hP:=G.E.S.P;rcases zzd s m x with ⟨c38,l38⟩ | ⟨c38,hl,hL⟩ | ⟨c30,hh,hL,hmay,hroom⟩
   .have hg:yT s.T x.Obj=1:=(G.B.gr _).1 (zlM hx (zrm (.inr (.inr c38))));have e38:zq s m x=zfi s m x:=by
     unfold zq;rw [ze,ze,ze,ze,ze,ze,ze,ze,ze,ze,ze,ze,ze,ze,ze,ze,ze,zb c38]
    have ht:(zq s m x).1.T=xP s.T x.Obj:=by rw [e38];rfl
    have hh:(zq s m x).1.H=s.H:=by rw [e38];rfl
    refine ⟨?_⟩;have ec:cnt (Wx p (zS s m))=cnt (Wx p s)+1:=by
     unfold Wx at *;rw [eT];exact zsz hp G hg ht
    rw [ec,eH,hh,eL,l38];exact I.L.earn hp hc hdd m
   .have eB:(zq s m x).1.T.Black&&&wR (p.H.Objs.length:Int)=Wx p s:=by
     unfold Wx;rcases hT with ⟨_,_,t⟩ | ⟨_,_,_,_,t⟩ | ⟨_,_,h,_⟩ | ⟨_,_,_,_,t3,_⟩
     .rw [t]
     .rw [t]
     .exact zk h c38
     .rw [t3,VX] at hl;omega
    refine ⟨?_⟩;have ec:Wx p (zS s m)=Wx p s:=by
     rw [<-eB];unfold Wx;rw [eT]
    rw [ec,eH,hl,eL];rcases hL with e | ⟨w,e⟩
    .rw [e];exact I.L
    .rw [e];exact I.L.take hp hc hdd m w
   .have hroom':(s.H.Objs.length:Int)<p.Most:=by
     unfold W3 at hroom;simp only [zBl,decide_eq_true_eq] at hroom;rw [hP] at hroom;exact hroom.1
    have nm: ¬zP s.T.Marks ((s.H.Objs.length:Int)+1)=true:=fun e=>by have:=G.mrk _ e;omega
    have nb': ¬zP s.T.Black ((s.H.Objs.length:Int)+1)=true:=fun e=>nm (G.B.blk _ e);have ec:Wx p (zS s m)=Wx p s:=by
     have ht:(zq s m x).1.T=s.T\/(zq s m x).1.T=X3 s.T (wc (s.H.Objs.length+1))\/(zq s m x).1.T.Black=s.T.Black:=by
      rcases hT with ⟨_,_,t⟩ | ⟨_,_,_,_,t⟩ | ⟨_,_,h,_⟩ | ⟨_,_,_,_,_,t4⟩
      .exact .inl t
      .exact .inr (.inr (by rw [t]))
      .omega
      .exact .inr (.inl t4)
     unfold Wx;rw [eT];rcases ht with t | t | t
     .rw [t]
     .rw [t,yP,zhx (by omega) nm nb'];refine zgs (fun q=>?_);rw [Zp,Zp];dsimp only;constructor
      .rintro ⟨a,b⟩;rcases ZS a with a | a
       .exact ⟨a,b⟩
       .have:=(Uk (n:=p.H.Objs.length) (by omega) q).1 b;omega
      .rintro ⟨a,b⟩;exact ⟨(vw _ _ _).2 (.inl a),b⟩
     .rw [t]
    refine ⟨?_⟩;rw [hP] at hL hmay;rw [ec,eH,hh,eL,hL,VX];have:=I.L.spend hp hc hdd hmay;rw [show ((s.H.Objs.length+1:Nat):Int)-(p.H.Objs.length:Int)=(s.H.Objs.length:Int)-(p.H.Objs.length:Int)+1 by omega];exact this
theorem zwh {α S σ B C:Type}{f:σ->Option (xJ σ B C)}(A:Int->S->σ) (b:S->B) (l:List α) (hl:l.length<1000000) (g:S->α->S) (Inv:Nat->S->Prop) {s:S}(h0:Inv 0 s)
  (h1:∀(i:Nat) s x,l[i]? =some x->i<l.length->Inv i s->Inv (i+1) (g s x)/\f (A (i:Int) s)=some (.again (A ((i+1:Nat):Int) (g s x)))) (h2:∀s,Inv l.length s->f (A (l.length:Int) s)=some (.brk (b s))) :
  yM f (A 0 s)=some (.brk (b (l.foldl g s)))/\Inv l.length (l.foldl g s):=by
 have key:∀(k i:Nat) (s:S),l.length-i=k->i<=l.length->Inv i s->(∀m,k<m->vd f m (A (i:Int) s)=some (.brk (b ((l.drop i).foldl g s))))/\Inv l.length ((l.drop i).foldl g s):=by
  intro k
  induction k with
  | zero =>
   intro i s hk hi hs;have:i=l.length:=by omega
   subst this;rw [List.drop_length];refine ⟨fun m hm=>?_,hs⟩;obtain ⟨m,rfl⟩:∃x,m=x+1:=⟨m-1,by omega⟩
   simp only [vd];rw [h2 s hs];rfl
  | succ k ih =>
   intro i s hk hi hs;have hx:=zBn (show i<l.length by omega);have hd:=zCt (show i<l.length by omega);generalize l[i]'(by omega)=x at hx hd;obtain ⟨h3,h4⟩:=h1 i s x hx (by omega) hs;obtain ⟨h5,h6⟩:=ih (i+1) (g s x) (by omega) (by omega) h3;rw [hd];refine ⟨fun m hm=>?_,h6⟩;obtain ⟨m,rfl⟩:∃x,m=x+1:=⟨m-1,by omega⟩
   simp only [vd];rw [h4,zBk];exact h5 m (by omega)
 obtain ⟨k1,k2⟩:=key l.length 0 s (by omega) (by omega) h0;refine ⟨?_,k2⟩;rw [Uh];exact k1 rounds (vr (by omega))
theorem lo3 {a b c:Int}(ha:0<=a) (hb:0<=b) (hc:0<=c):decide ((bif decide (c<(bif decide (a<b) then a else b)) then c else (bif decide (a<b) then a else b))<0)=false:=by
 simp only [zG];refine wb ?_;split
 .omega
 .split<;>omega
theorem hi3 {a b c n:Int}(ha:a<=n) (hb:b<=n) (hc:c<=n):decide (n<(bif decide ((bif decide (a<b) then b else a)<c) then c else (bif decide (a<b) then b else a)))=false:=by
 simp only [zG];refine wb ?_;split
 .omega
 .split<;>omega
theorem ztM {p:zc}(hp:zB p) {c d:Int}(hc:0<=c/\c<=9) (hd:0<=d/\d<=9) {l:zD}(I:LdG p c d l):zdp l=some (true,()):=by
 obtain ⟨h1,h2,h3⟩:=I.low hp hc hd;have hm:=hp.mt;have hlen:=I.len;have hsc:=I.sc;have hsp:=I.sp;have hpo:=I.pool;have hsum:=I.sum;rw [zmN,zG,zd (show ¬(16:Int)<(l.Bal.length:Int) by omega),lo3 (by omega) (by omega) (by omega),yg,hi3 (by omega) (by omega) (by omega),yg,yI];obtain ⟨e,_⟩:=zwh (f:=Xb) (fun j (r:Int)=>(r,l.Bal,(l.Bal.length:Int),j,l,())) (fun r=>(r,l,())) l.Bal (by omega) (fun r b=>r+b) (fun i r=> -1000-100*(i:Int)<=r/\r<=1000+100*(i:Int)) (s:=l.Spent+l.Pool) ⟨by omega,by omega⟩
  (fun i r x hx hi hr=>by
   have hb:=h3 x (zBq hx);refine ⟨⟨by omega,by omega⟩,?_⟩;show Xb (r,l.Bal,(l.Bal.length:Int),(i:Int),l,())=_;rw [zcT,zG,yo,vj hx,zBk,zG,ze,zG,ze,xU,yI])
  (fun r hr=>by
   show Xb (r,l.Bal,(l.Bal.length:Int),(l.Bal.length:Int),l,())=_;rw [zcT,zG,ze])
 have hf:∀(q:List Int) (a:Int),q.foldl (fun r b=>r+b) a=a+q.sum:=fun q=>by
  induction q with
  | nil=>intro a;simp
  | cons x q ih=>intro a;rw [zCs,ih,zCn];omega
 rw [hf] at e;rw [e,zBk];dsimp only;rw [yD (by omega)]
namespace B15
def zoA (w:Int) (n:Nat) (s:za):za:=goF (fun _ s=>zt s w) 0 n s
theorem zyY {p:zc}{nb:Nat}(h:zB p) {s:za}(E:EOk p nb s) (w:Int) {n:Nat}(hn:n<1000000):vK s w (n:Int)=some (zoA w n s,()):=by
 have e:=zmo (f:=ZA) (fun i s=>(w,(n:Int),i,s,0,0,0,0,0,0,0,0,0,0#64,0,zA.mk 0#64 0#64,0,0,false,false,0,0,0,0,zF.mk 0 0,([]:List (List Int)),([]:List (List Int)),([]:List (List zr)),([]:List zu),([]:List (List Int)),([]:List (BitVec 64)),([]:List (List Int)),([]:List Int),([]:List Int),([]:List zh),([]:List zg),())) (fun s=>(s,0,0,0,0,0,0,0,0,0,0#64,0,zA.mk 0#64 0#64,0,0,false,false,0,0,0,0,zF.mk 0 0,([]:List (List Int)),([]:List (List Int)),([]:List (List zr)),([]:List zu),([]:List (List Int)),([]:List (BitVec 64)),([]:List (List Int)),([]:List Int),([]:List Int),([]:List zh),([]:List zg),())) n hn (fun _ s=>zt s w) (EOk p nb) (fun _ s E=>zd6 h E w)
  (fun i s hi E=>by
   show ZA (w,(n:Int),(i:Int),s,0,0,0,0,0,0,0,0,0,0#64,0,zA.mk 0#64 0#64,0,0,false,false,0,0,0,0,zF.mk 0 0,([]:List (List Int)),([]:List (List Int)),([]:List (List zr)),([]:List zu),([]:List (List Int)),([]:List (BitVec 64)),([]:List (List Int)),([]:List Int),([]:List Int),([]:List zh),([]:List zg),())=_;rw [zax,zG,yo,zew h E,zBk,xU])
  (fun s E=>by
   show ZA (w,(n:Int),(n:Int),s,0,0,0,0,0,0,0,0,0,0#64,0,zA.mk 0#64 0#64,0,0,false,false,0,0,0,0,zF.mk 0 0,([]:List (List Int)),([]:List (List Int)),([]:List (List zr)),([]:List zu),([]:List (List Int)),([]:List (BitVec 64)),([]:List (List Int)),([]:List Int),([]:List Int),([]:List zh),([]:List zg),())=_;rw [zax,zG,ze]) E
 rw [zjG];exact congrArg (fun o=>Option.bind o _) e
def znk (ord:List (BitVec 8)) (i:Nat) (s:za):Int:=1+((ord.getD i 0#8).toNat:Int).tmod (s.Ws.length:Int)
def zoZ (ord:List (BitVec 8)) (n:Nat) (s:za):za:=goF (fun i s=>zt s (znk ord i s)) 0 n s
theorem zwV {p:zc}{nb:Nat}(h:zB p) {s:za}(E:EOk p nb s) (b:BitVec 8):w64 (1+(b.toNat:Int).tmod (s.Ws.length:Int))=1+(b.toNat:Int).tmod (s.Ws.length:Int)/\1<=1+(b.toNat:Int).tmod (s.Ws.length:Int)/\1+(b.toNat:Int).tmod (s.Ws.length:Int)<=(s.Ws.length:Int):=by
 have hw:=h.wk;have hl:=E.wl;have:=ug (show (0:Int)<=(b.toNat:Int) by omega) (show (0:Int)<(s.Ws.length:Int) by omega);exact ⟨yI,by omega,by omega⟩
theorem zx1 {p:zc}{nb:Nat}(h:zB p) {s:za}(E:EOk p nb s) (ord:List (BitVec 8)) {most:Nat}(hm:most<1000000):WV s ord (most:Int)=some (zoZ ord (min ord.length most) s,()):=by
 have hw:=h.wk;have e:=zmo (f:=Zs) (fun i s=>(ord,(most:Int),i,s,0,0,0,0,0,0,0,0,0,0#64,0,zA.mk 0#64 0#64,0,0,false,false,0,0,0,0,zF.mk 0 0,([]:List (List Int)),([]:List (List Int)),([]:List (List zr)),([]:List zu),([]:List (List Int)),([]:List (BitVec 64)),([]:List (List Int)),([]:List Int),([]:List Int),([]:List zh),([]:List zg),())) (fun s=>(s,0,0,0,0,0,0,0,0,0,0#64,0,zA.mk 0#64 0#64,0,0,false,false,0,0,0,0,zF.mk 0 0,([]:List (List Int)),([]:List (List Int)),([]:List (List zr)),([]:List zu),([]:List (List Int)),([]:List (BitVec 64)),([]:List (List Int)),([]:List Int),([]:List Int),([]:List zh),([]:List zg),())) (min ord.length most) (by omega) (fun i s=>zt s (znk ord i s)) (EOk p nb) (fun _ s E=>zd6 h E _)
  (fun i s hi E=>by
   have hx:=zBn (show i<ord.length by omega);have hl:=E.wl;show Zs (ord,(most:Int),(i:Int),s,0,0,0,0,0,0,0,0,0,0#64,0,zA.mk 0#64 0#64,0,0,false,false,0,0,0,0,zF.mk 0 0,([]:List (List Int)),([]:List (List Int)),([]:List (List zr)),([]:List zu),([]:List (List Int)),([]:List (BitVec 64)),([]:List (List Int)),([]:List Int),([]:List Int),([]:List zh),([]:List zg),())=_;have ew:znk ord i s=1+((ord[i]'(by omega)).toNat:Int).tmod (s.Ws.length:Int):=by unfold znk;rw [zBp,hx];rfl
   rw [zaq,zG,yo,zG,yo,vj hx,zBk,zG,ze,(zwV h E _).1,zew h E,zBk,xU,ew])
  (fun s E=>by
   show Zs (ord,(most:Int),((min ord.length most:Nat):Int),s,0,0,0,0,0,0,0,0,0,0#64,0,zA.mk 0#64 0#64,0,0,false,false,0,0,0,0,zF.mk 0 0,([]:List (List Int)),([]:List (List Int)),([]:List (List zr)),([]:List zu),([]:List (List Int)),([]:List (BitVec 64)),([]:List (List Int)),([]:List Int),([]:List Int),([]:List zh),([]:List zg),())=_;rw [zaq,zG];by_cases c:((min ord.length most:Nat):Int)<(ord.length:Int)
   .rw [zb c,zG,ze]
   .rw [zd c]) E
 rw [zje];exact congrArg (fun o=>Option.bind o _) e
theorem zy0 {A B D:Type}{f:A->Option (xJ A B D)}{x:A}{b:B}(h:f x=some (.brk b)):yM f x=some (.brk b):=by
 rw [Uh];show vd f (18446744073709551615+1) x=_;rw [vd,h];rfl
def UD:zc:=⟨1,0,2,1,1,4,2,2,⟨1,[[2],[0],[0]]⟩,1#64,[],[],[]⟩
theorem zyz:zal []=some (UD,()):=by
 rw [zjq,zy0 (by rw [zho];rfl)];rfl
theorem zct:zB UD:=by
 constructor
 case objs=>intro o ho;simp [UD] at ho ⊢;rcases ho with rfl | rfl | rfl<;>simp
 case roots=>exact ⟨1,by decide,by decide,by decide⟩
 case reg=>intro r hr;cases hr
 case prog=>intro k r ops hr;cases hr
 all_goals first | decide | rfl
theorem zrT:VQ=some (true,()):=by
 have E:=ztv zct;have r:=fun n hn=>zyY zct E 1 (n:=n) hn;have e4:vK (yW UD) 1 4=some (zoA 1 4 (yW UD),()):=r 4 (by decide);have e11:vK (yW UD) 1 11=some (zoA 1 11 (yW UD),()):=r 11 (by decide);have e100:vK (yW UD) 1 100=some (zoA 1 100 (yW UD),()):=r 100 (by decide);have out:∀w:Int,w<1\/1<w->zt (yW UD) w=yW UD:=fun w hw=>by
  unfold zt;rw [zb (.inr (hw.imp id (fun e=>by show (((zC5 1).map (wY UD)).length:Int)<w;rw [zCK,List.length_range];omega)))]
 rw [zhA,zyz];simp only [zBk,zq5 zct,e4,e11,e100,zew zct E,out 2 (.inr (by decide)),out 0 (.inl (by decide)),zwb (zrl zct)];decide +kernel
structure WF (p:zc) (k:Nat) (s:za):Prop where
 I:WE p k s
 D:WD p s
 V:∃gh,WG p (z7 p+1) k s gh
 L:zqh s
 B:s.L.Bal=(yW p).L.Bal
theorem zz3 {p:zc}(h:zB p):WF p 0 (yW p) :=
 ⟨⟨⟨⟨_,zAe h⟩,fun i x hx=>by
  obtain ⟨j,_,rfl⟩:=zBB.1 (show x∈(zC5 p.Workers.toNat).map (wY p) from zBq hx);exact ⟨fun e=>zk e (by show ¬(0:Int)=3;decide),fun e=>zk e (by show ¬(0:Int)=4;decide)⟩⟩,⟨_,_,zAc h,zAr h⟩,rfl,rfl⟩,zAj h,⟨_,zwJ h⟩,zyr h,rfl⟩
theorem WF.step {p:zc}(h:zB p) {k:Nat}{s:za}(hk:k<1000000) (F:WF p k s) {v:Int}(hv:1<=v/\v<=p.Workers):WF p (k+1) (zt s v):=by
 obtain ⟨gh,G⟩:=F.V;have hd:=F.D.rest.2.1;obtain ⟨gh',G',T⟩:=G.step h (by omega) hv hd;have hwl:=G.E.wl;have hx:=zBn (show (v-1).toNat<s.Ws.length by omega);refine ⟨F.I.step h hk hv,F.D.step h G F.L hv T,⟨gh',G'⟩,F.L.step h G hv hd T,?_⟩;rw [zfP hd (by omega) hx];show (zi s v _).1.L.Bal=_;rw [zxl];split
 .unfold Yi;rw [ze];exact F.B
 .exact F.B
theorem WF.go {p:zc}(hp:zB p):∀(l:List Int) {k:Nat}{s:za},(∀v∈l,1<=v/\v<=p.Workers)->k+l.length<1000000->WF p k s->WF p (k+l.length) (goW s l)
 | [],k,s,_,_,I=>I
 | v::l,k,s,hl,hk,I=>by
  rw [zBv] at hk ⊢;have:=WF.go hp l (fun u hu=>hl u (zBr _ hu)) (by omega) (I.step hp (by omega) (hl v (zBx ..)));rwa [show k+1+l.length=k+(l.length+1) by omega] at this
theorem WF.rounds {p:zc}(hp:zB p) {l:List Int}(hl:∀v∈l,1<=v/\v<=p.Workers) (hlen:l.length<=3):∀(n:Nat) {k:Nat}{s:za},k+3*n<1000000->WF p k s->∃k',k'<=k+3*n/\WF p k' (xF l n s)
 | 0,k,s,_,I=>⟨k,by omega,I⟩
 | n+1,k,s,hk,I=>by
  have I1:=WF.go hp l hl (by omega) I;obtain ⟨k',h2,I2⟩:=WF.rounds hp hl hlen n (k:=k+l.length) (by omega) I1;exact ⟨k',by omega,I2⟩
theorem zs1 {p:zc}(hp:zB p) (ord:List (BitVec 8)):∀(n i k:Nat) (s:za),k+n<1000000->WF p k s->WF p (k+n) (goF (fun i s=>zt s (znk ord i s)) i n s)
 | 0,i,k,s,_,F=>F
 | n+1,i,k,s,hk,F=>by
  obtain ⟨gh,G⟩:=F.V;have hw:=(zwV hp G.E (ord.getD i 0#8)).2;have hwl:=G.E.wl;have:=zs1 hp ord n (i+1) (k+1) _ (by omega) (F.step hp (by omega) (v:=znk ord i s) (by unfold znk;omega));rw [show k+(n+1)=k+1+n by omega];exact this
def Zb (n:Nat):List Int:=(zC5 n).map (fun (i:Nat)=>(i:Int)+1)
theorem znh {n:Nat}{v:Int}:v∈Zb n↔1<=v/\v<=(n:Int):=by
 unfold Zb;rw [zBB];constructor
 .rintro ⟨i,hi,rfl⟩;have:=zBW.1 hi;omega
 .rintro ⟨h1,h2⟩;exact ⟨(v-1).toNat,zBW.2 (by omega),by omega⟩
theorem zyo {p:zc}(h:zB p) {k:Nat}{s:za}(hk:k<=200) (F:WF p k s) {n:Nat}(hn:(n:Int)=p.Workers) :
  ∃k',WF p k' (xF (Zb n) 1500 s)/\NG (xF (Zb n) 1500 s)/\∀x∈(xF (Zb n) 1500 s).Ws,x.PC≠9:=by
 have hwk:=h.wk;have hl:∀v∈Zb n,1<=v/\v<=p.Workers:=fun v hv=>by have:=znh.1 hv;omega
 have hlen:(Zb n).length<=3:=by unfold Zb;rw [zCK,List.length_range];omega
 have hall:∀w,1<=w->w<=p.Workers->w∈Zb n:=fun w h1 h2=>znh.2 (by omega);have e:xF (Zb n) 1500 s=goW (xF (Zb n) 1499 s) (Zb n):=Vi (Zb n) 1499 1 s;obtain ⟨k1,h1,F1⟩:=WF.rounds h hl hlen 1002 (k:=k) (by omega) F;have g1:NG (xF (Zb n) 1002 s):=zz4 h hl hlen hall 6 (k:=k) (by omega) F.I (zzS s.T);have g2:NG (xF (Zb n) 1499 s):=by
  rw [show 1499=1002+497 by omega,Vi];exact zh2 h hl hlen 497 (k:=k1) (by omega) F1.I g1
 obtain ⟨k2,h2,F2⟩:=WF.rounds h hl hlen 1499 (k:=k) (by omega) F;obtain ⟨q1,q2⟩:=zv1 h (Zb n) hl (k:=k2) (by omega) F2.I g2;rw [e];have F3:=F2.go h (Zb n) hl (by omega);refine ⟨_,F3,q1,fun x hx h9=>?_⟩;obtain ⟨i,hi⟩:=zCm.1 hx;have hlt:=(zBt.1 hi).1;obtain ⟨_,_,E,_⟩:=F3.I.E;have hwl:=E.G.E.wl;exact (q2 i x hi h9).2 (hall _ (by omega) (by omega))
theorem zzK {p:zc}:(yW p).L.Bal.sum=0/\∀b∈(yW p).L.Bal,b=0:=by
 have e:(yW p).L.Bal=zC3 p.Mutators.toNat 0:=rfl;rw [e];exact ⟨by simp,fun b hb=>zC0 hb⟩
theorem zwQ {p:zc}(h:zB p) {k:Nat}{s:za}(F:WF p k s) (g:NG s) (h9:∀x∈s.Ws,x.PC≠9):s.Work=0/\s.T.Marks=zc2 p/\s.T.Black=zc2 p/\s.L.Pool=cnt (zc2 p)/\s.L.Scanned=s.L.Pool/\LdG p (cnt (zc2 p)) 0 s.L:=by
 obtain ⟨gh,W,E,J⟩:=F.I.E;have G:=E.G;have hbag:=zxB G g;have hM:=zmg F.I.M;have hB:∀o,zP s.T.Marks o=true->zP s.T.Black o=true:=fun o ho=>Classical.byContradiction fun q=>g o ((vu _ _).2 ⟨ho,q⟩);have hlive:∀o,Reach p.H (wN p) o->zP s.T.Marks o=true:=fun o r=>J.quiet g (fun q hq=>by
  rcases hq with ⟨i,x,hx,h6,_⟩ | ⟨i,x,hx,hp⟩
  .exfalso;have:=zc4 (p:=p) (gh:=gh) hx (zaE (s:=s) (.inr (.inl h6)));rw [hbag] at this;cases this
  .exfalso;obtain ⟨_,c0,cb⟩:=hM x (zBq hx);rcases hp with hp | ⟨hp,_⟩ | ⟨hp,_⟩
   .rw [cb] at hp;cases hp
   .omega
   .omega) r
 have e1:s.T.Marks=zc2 p:=zgs (fun o=>⟨fun ho=>(zsB h o).2 (F.D.lv o ho),fun ho=>hlive o ((zsB h o).1 ho)⟩);have e2:s.T.Black=zc2 p:=zgs (fun o=>⟨fun ho=>by rw [<-e1];exact G.B.blk o ho,fun ho=>hB o (by rw [e1];exact ho)⟩);have hsc:=F.D.sc;rw [e2] at hsc;have hw:s.Work=0:=by
  have hwk:=E.wk;rw [hbag] at hwk;have z1:(s.Ws.map owW).sum=0:=by
   have:∀l:List zh,(∀x∈l,owW x=0)->(l.map owW).sum=0:=by
    intro l
    induction l with
    | nil=>intro _;rfl
    | cons x l ih=>intro hx;rw [zCo,zCn,hx x (zBx ..),ih (fun y hy=>hx y (zBr _ hy))];rfl
   refine this _ (fun x hx=>?_);obtain ⟨i,hi⟩:=zCm.1 hx;have h6:x.PC≠6:=fun c=>by
    have:=zc4 (p:=p) (gh:=gh) hi (zaE (s:=s) (.inr (.inl c)));rw [hbag] at this;cases this
   unfold owW;rw [zd (h9 x hx),zd h6]
  have z2:(s.Ms.map owX).sum=0:=by
   have:∀l:List zg,(∀x∈l,owX x=0)->(l.map owX).sum=0:=by
    intro l
    induction l with
    | nil=>intro _;rfl
    | cons x l ih=>intro hx;rw [zCo,zCn,hx x (zBx ..),ih (fun y hy=>hx y (zBr _ hy))];rfl
   refine this _ (fun x hx=>?_);have:=(hM x hx).2.1;unfold owX;rw [ze,ze]
  have hz:zbe s=0:=by unfold zbe;omega
  rw [hz] at hwk;exact hwk
 have hbn:=zzK (p:=p);have hlen:((yW p).L.Bal.length:Int)=p.Mutators:=by
  have:=h.mt;show ((zC3 p.Mutators.toNat (0:Int)).length:Int)=p.Mutators;rw [zB8];omega
 have hli:=h.limit;have hc:=zjW (zc2 p);have hsp:=F.D.rest.2.2.2;refine ⟨hw,e1,e2,by omega,by omega,⟨by rw [F.B];exact hlen,hsc.1,by rw [hsp];omega,by omega,fun b hb=>?_,?_⟩⟩
 .rw [F.B] at hb;have:=hbn.2 b hb;omega
 .rw [F.B,hbn.1];omega
theorem workerEnds_plain (l ord:List (BitVec 8)):uV l ord=some (true,()):=by
 obtain ⟨p,ep,h⟩:=zzE l;have E0:=ztv h;have hwk:=h.wk;have et:WV (yW p) ord 200=some (zoZ ord (min ord.length 200) (yW p),()):=zx1 h E0 ord (most:=200) (by decide);rw [zfe,zrT];simp only [zBk,zB6,yg,ep,zq5 h,et];have F0:WF p (0+min ord.length 200) (zoZ ord (min ord.length 200) (yW p)):=zs1 h ord (min ord.length 200) 0 0 (yW p) (by omega) (zz3 h);have hk0:0+min ord.length 200<=200:=by omega
 generalize 0+min ord.length 200=k0 at F0 hk0;generalize zoZ ord (min ord.length 200) (yW p)=s0 at F0;obtain ⟨n,hn⟩:∃n:Nat,(n:Int)=p.Workers:=⟨p.Workers.toNat,by omega⟩
 have hl:∀v∈Zb n,1<=v/\v<=p.Workers:=fun v hv=>by have:=znh.1 hv;omega
 have inner:∀(s:za) (i:Int),EOk p (z7 p+1) s->yM wO (true,i,1,p,s,())=some (.brk (true,i,p,goW s (Zb n),())):=fun s i E=>by
  have:=zmo (f:=wO) (fun j s=>(true,i,j+1,p,s,())) (fun s=>(true,i,p,s,())) n (by omega) (fun j s=>zt s ((j:Int)+1)) (EOk p (z7 p+1)) (fun _ s E=>zd6 h E _)
   (fun j s hj E=>by
    have hwl:=E.wl;show wO (true,i,(j:Int)+1,p,s,())=_;rw [W2,zG,yo,zew h E,zBk,yI];dsimp only;rw [show ((j+1:Nat):Int)+1=(j:Int)+1+1 by omega])
   (fun s E=>by
    have hwl:=E.wl;show wO (true,i,(n:Int)+1,p,s,())=_;rw [W2,zG,ze]) E
  have key:∀m j (s:za),goF (fun j s=>zt s ((j:Int)+1)) j m s=goW s ((List.range' j m).map (fun (i:Nat)=>(i:Int)+1)):=by
   intro m
   induction m with
   | zero=>intro j s;rfl
   | succ m ih =>
    intro j s;rw [List.range'_succ,zCo];exact ih (j+1) _
  rw [key n 0 s] at this;rw [show Zb n=(List.range' 0 n).map (fun (i:Nat)=>(i:Int)+1) by unfold Zb;rw [zCW]];exact this
 have outer:yM w9 (true,0,p,s0,())=some (.brk (true,p,xF (Zb n) 1500 s0,())):=by
  have:=zmo (f:=w9) (fun j s=>(true,j,p,s,())) (fun s=>(true,p,s,())) 1500 (by decide) (fun _ s=>goW s (Zb n)) (EOk p (z7 p+1)) (fun _ s E=>by
    have:∀(l:List Int) (s:za),EOk p (z7 p+1) s->EOk p (z7 p+1) (goW s l):=by
     intro l
     induction l with
     | nil=>intro s E;exact E
     | cons v l ih=>intro s E;exact ih _ (zd6 h E v)
    exact this _ s E)
   (fun j s hj E=>by
    show w9 (true,(j:Int),p,s,())=_;rw [Vo,zG,yo,inner s _ E,zBk];dsimp only;rw [xU])
   (fun s E=>by
    show w9 (true,1500,p,s,())=_;rw [Vo,zG,zd (by decide)]) (s:=s0) (by obtain ⟨gh,G⟩:=F0.V;exact G.E)
  have key:∀m j (s:za),goF (fun _ s=>goW s (Zb n)) j m s=xF (Zb n) m s:=by
   intro m
   induction m with
   | zero=>intro j s;rfl
   | succ m ih=>intro j s;exact ih (j+1) _
  rw [key] at this;exact this
 obtain ⟨k',F,g,h9⟩:=zyo h hk0 F0 hn;generalize xF (Zb n) 1500 s0=s at outer F g h9;obtain ⟨t1,t2,t3,t4,t5,t6⟩:=zwQ h F g h9;have hcr:=zjW (zc2 p);have hc9:cnt (zc2 p)<=9:=by
  have hsc:=F.D.sc;refine zj4 (fun o ho=>?_);have:=F.I.black h o (by rw [t3];exact ho);omega
 rw [outer,zBk];dsimp only;rw [zxj h,zBk];dsimp only;rw [zI,t1,yD rfl,zI,t2,yD rfl,zI,t3,yD rfl,zI,zqZ,zBk,t4];dsimp only;rw [yD rfl,zI,yD (t5.trans t4),zI,ztM h ⟨hcr,hc9⟩ (by omega) t6];rfl
end B15
end
end Go.Pe.G
