/- Own work of this seat: OpN, OpO, OpP, OpM, Abs, Abs2, Abs3, Call1, Call2, Call3, Step, Draw1, Draw2, Draw3, Draw4, Draw5, Draw6, Draw7, Draw8, Code, Flat, Range, DrawY, Code2, Fn, Gen. -/
import Derived.Test.YtdommjamncndpaaGreatDoorWECa
import Derived.MapKept
import GoSem.Dispatch
import Derived.OrdersIn
import Derived.RangeFuncLeaves
import Derived.RangeFuncSeq
import Derived.RangeFuncCalls
import Derived.Scope
import Derived.RangeFuncBound
set_option linter.unusedVariables false
set_option linter.unusedSimpArgs false
set_option linter.unnecessarySimpa false
set_option linter.unusedSectionVars false
set_option linter.deprecated false
open Array renaming getD_eq_getD_getElem? → zBN, getElem?_eq_some_iff → zBP, getElem?_toList → zB1, length_toList → zCk, getElem?_eq_getElem → zCr, toList_inj → zCF, getElem?_push → zCU, getElem?_setIfInBounds_ne → zCZ
open BitVec renaming toNat_ofInt → zB9
open Bool renaming and_eq_true → zBl, not_eq_true' → zBC, false_eq_true → zBT, not_true → zB6, true_and → zCu, or_eq_true → zCx
open Int renaming toNat_natCast → zCh
open List renaming getElem?_eq_getElem → zBn, getD_eq_getElem?_getD → zBp, mem_of_getElem? → zBq, mem_cons_of_mem → zBr, getElem?_eq_some_iff → zBt, append_assoc → zBu, length_cons → zBv, mem_cons_self → zBx, nil_append → zBy, length_append → zBz, mem_append → zBE, mem_cons → zBG, mem_append_left → zBH, getElem?_set_ne → zBI, mem_append_right → zBJ, all_eq_true → zBL, getElem?_append_left → zBM, getElem?_map → zBQ, getElem?_append_right → zBS, getElem_mem → zBU, mem_range → zBW, getElem?_set → zBZ, length_nil → zB4, eq_nil_of_length_eq_zero → zB7, length_replicate → zB8, mem_singleton → zCb, getElem?_eq_none → zCj, map_cons → zCo, getElem?_take → zCp, length_take → zCq, foldl_cons → zCs, drop_eq_getElem_cons → zCt, getElem?_cons_zero → zCv, length_drop → zCz, cons_append → zCG, getElem?_replicate → zCH, take_add_one → zCO, take_length → zCP, getElem?_toArray → zCS, range_eq_range' → zCW, getElem?_cons_succ → zCX, take_append_drop → zCY, eq_of_mem_replicate → zC0
open Nat renaming le_refl → zBm, eq_of_beq_eq_true → zBs, lt_of_lt_of_le → zBK, le_of_ble_eq_true → zB0, add_zero → zCd, le_trans → zCf, mul_le_mul_right → zCl
open Option renaming bind_some → zBk, bind_eq_some_iff → zBw, map_eq_some_iff → zBD, getD_some → zCg, map_some → zCC
namespace Go.Pe
variable {E:yG}
section
variable {P:Program}{tab:List (Nat×TI)}{A0:Nat->Prop}{μ:Nat->Loc}{H:List (Blk E)}{w:World}{R:Type}{K:zj E->List (Blk E)->Option R}{r:R}
theorem zgr {w:World}{A U:Nat->Prop}{x:Int}{v:Value}(h:yc E w A U μ (.v (.int .i64) x) v):v= .int .i64 x:=by
 cases h with | v _ _ _ h=>cases h;rfl
theorem zmA {w:World}{A U:Nat->Prop}(x:Int):yc E w A U μ (.v (.int .i64) x) (.int .i64 x):= .v _ _ _ (.int .i64 x)
theorem zvG {w:World}{A U:Nat->Prop}{i:TI}(h:i.agg=true\/i.zero.length=1):yc E w A U μ (zgW i) (xA i):=by
 unfold zgW xA;cases hag:i.agg with
 | true=>simp only [if_true];exact yc.aggL (zsT i.zero)
 | false =>
  simp only [zBT,if_false];rw [hag] at h;have h:i.zero.length=1:=by simpa using h
  match hz:i.zero,h with
  | [z],_=>exact zza z
def MR (R:zj E->Value->Prop) (es:List (zj E×zj E)) (ms:List MapEntry):Prop:=es.length=ms.length/\∀(j:Nat) (p:zj E×zj E) (m:MapEntry),es[j]? =some p->ms[j]? =some m->R p.1 m.key/\R p.2 m.val
theorem MR.nil {R:zj E->Value->Prop}:MR R [] []:=⟨rfl,fun j p m h=>by simp at h⟩
theorem MR.head {R:zj E->Value->Prop}{e:zj E×zj E}{es:List (zj E×zj E)}{ms:List MapEntry}(h:MR R (e::es) ms):∃m ms',ms=m::ms'/\R e.1 m.key/\R e.2 m.val/\MR R es ms':=by
 cases ms with
 | nil=>have:=h.1;simp at this
 | cons m ms =>
  have h0:=h.2 0 e m rfl rfl;exact ⟨m,ms,rfl,h0.1,h0.2,by have:=h.1;simpa using this,fun j p u hp hu=>h.2 (j+1) p u (by simpa using hp) (by simpa using hu)⟩
theorem MR.cons {R:zj E->Value->Prop}{e:zj E×zj E}{es:List (zj E×zj E)}{m:MapEntry}{ms:List MapEntry}(h1:R e.1 m.key) (h2:R e.2 m.val) (h:MR R es ms):MR R (e::es) (m::ms) :=
 ⟨by have:=h.1;simpa using this,fun j p u hp hu=>by
  cases j with
  | zero=>simp at hp hu;subst hp hu;exact ⟨h1,h2⟩
  | succ j=>exact h.2 j p u (by simpa using hp) (by simpa using hu)⟩
theorem MR.append {R:zj E->Value->Prop}{es es':List (zj E×zj E)}{ms ms':List MapEntry}(h:MR R es ms) (k:MR R es' ms'):MR R (es++es') (ms++ms'):=by
 induction es generalizing ms with
 | nil =>
  have:=h.1;have:ms=[]:=zB7 (by simpa using this.symm);subst this;exact k
 | cons e es ih =>
  obtain ⟨m,ms2,rfl,h1,h2,h3⟩:=h.head;exact MR.cons h1 h2 (ih h3)
theorem MR.of_blk {w:World}{A U:Nat->Prop}{es:List (zj E×zj E)}{ms:Array MapEntry}(hs:ms.size=es.length)
  (h:∀j (h:j<es.length),yc E w A U μ es[j].1 ((ms.getD j default).key)/\yc E w A U μ es[j].2 ((ms.getD j default).val)):MR (yc E w A U μ) es ms.toList :=
 ⟨by simp [hs],fun j p m hp hm=>by
  obtain ⟨hj,rfl⟩:=zBt.1 hp;have:=h j hj;have e:ms.getD j default=m:=by
   rw [zBN,<-zB1,hm];rfl
  rwa [e] at this⟩
theorem MR.to_blk {w:World}{A U:Nat->Prop}{es:List (zj E×zj E)}{ms:Array MapEntry}(h:MR (yc E w A U μ) es ms.toList):ms.size=es.length /\
  ∀j (h:j<es.length),yc E w A U μ es[j].1 ((ms.getD j default).key)/\yc E w A U μ es[j].2 ((ms.getD j default).val) :=
 ⟨by have:=h.1;simpa using this.symm,fun j hj=>by
  have hl:=h.1;have hj':j<ms.toList.length:=by omega
  have:=h.2 j _ _ (zBn hj) (zBn hj');have e:ms.getD j default=ms.toList[j]:=by
   rw [zBN,<-zB1,zBn hj'];rfl
  rwa [e]⟩
theorem zkR {i:Int}{z:zj E}{ok:Bool}:∀(es:List (zj E×zj E)) (ms:List MapEntry) (n:Nat),MR (Rp E A0 μ H w) es ms->(zdS i z ok es).cps H K=some r ->
  ∃o,Instr.findNow (.int .i64) (.int .i64 i) ms n=some o/\(match o with
   | some (_,v)=>∃p,Rp E A0 μ H w p v/\K (if ok then .tuple [p,.v .bool true] else p) H=some r
   | none=>K (if ok then .tuple [z,.v .bool false] else z) H=some r)
 | [],ms,n,hm,h=>by
  have:ms=[]:=zB7 (by have:=hm.1;simpa using this.symm);subst this;exact ⟨none,rfl,h⟩
 | (k,x)::es,ms,n,hm,h=>by
  obtain ⟨m,ms',rfl,h1,h2,h3⟩:=hm.head;have key:∃k':Int,k= .v (.int .i64) k':=by
   cases k with
   | v τ k' =>
    cases τ with
    | int kk=>cases kk<;>first | exact ⟨_,rfl⟩ | (simp [zdS,Dec.cps] at h)
    | _=>simp [zdS,Dec.cps] at h
   | _=>simp [zdS,Dec.cps] at h
  obtain ⟨k',rfl⟩:=key;have hk:=zgr h1;simp only [zdS,Dec.cps] at h;unfold Instr.findNow;rw [hk];simp only [Instr.sameNow,if_true];by_cases e:i=k'
  .subst e;simp only [decide_true,zI,Dec.cps] at h;simp only [beq_self_eq_true];exact ⟨_,rfl,_,h2,h⟩
  .simp only [e,decide_false,yg] at h;have:(i==k')=false:=by simpa using e
   simp only [this];exact zkR es ms' (n+1) h3 h
theorem zl6 {kt:TypeId}(hkd:P.underlying kt=some (.int .i64)) (b:Bool) (n:Int) (w:World):(Instr.checkKey b 10000 kt (.int .i64 n)).run P w= .ok () w:=by
 rw [show (10000:Nat)=9999+1 from rfl,Instr.checkKey];simp only [Sem.run_bind,run_underlying hkd,Result.andThen_ok,Sem.run_pure]
theorem zqE (hT:yX E.leaves P tab=true) {t:Nat}{i u:TI}(hi:look tab t=some i) (hu:look tab i.elem=some u) {p k:zj E}{v kv:Value}{ok:Bool}(S:z9 A0 μ H w) (hp:Rp E A0 μ H w p v) (hk:Rp E A0 μ H w k kv)
  (h:(znA i (zgW u) p k ok).cps H K=some r):z8 P A0 μ H w (Instr.lookup t v kv ok) K r:=by
 unfold znA at h;split at h;rotate_left
 .simp [Dec.cps] at h
 rename_i hmp;obtain ⟨kt,hd,hkd⟩:=zw8 hT hi hmp;split at h;rotate_left
 .simp [Dec.cps] at h
 rename_i n;have hkv:=zgr hk;subst hkv;have hz:=ZB hT hu w;have hzr:Rp E A0 μ H w (zgW u) (xA u):=zvG (by
  cases ha:u.agg with
  | true=>exact .inl rfl
  | false=>exact .inr (by rw [zjI hT hu,zc8 hT hu ha]))
 have hck:∀b:Bool,(Instr.checkKey b 10000 kt (.int .i64 n)).run P w= .ok () w:=fun b=>zl6 hkd b n w;have fin:∀(ms:List MapEntry) (b:Bool),(∃o,Instr.findNow (.int .i64) (.int .i64 n) ms 0=some o/\(match o with
   | some (_,v)=>∃p,Rp E A0 μ H w p v/\K (if ok then .tuple [p,.v .bool true] else p) H=some r
   | none=>K (if ok then .tuple [zgW u,.v .bool false] else zgW u) H=some r)) ->
   z8 P A0 μ H w (do
    Instr.checkKey b 10000 kt (.int .i64 n)
    let (v,o) <-match <-Instr.findKey kt (.int .i64 n) ms with
     | some (_,v)=>pure (v,true)
     | none=>pure (<-zeroValue i.elem,false)
    pure (if ok then .tuple #[v,.bool o] else v)) K r:=by
  rintro ms b ⟨o,ho,hm⟩;have hf:(Instr.findKey kt (.int .i64 n) ms).run P w= .ok o w:=by
   simp only [Instr.findKey,Sem.run_bind,run_underlying hkd,Result.andThen_ok,ho,Sem.run_pure]
  have tup:∀ {q:zj E}{y:Value}{c:Bool},Rp E A0 μ H w q y->Rp E A0 μ H w (if ok then .tuple [q,.v .bool c] else q) (if ok then .tuple #[y,.bool c] else y):=by
   intro q y c hq;cases ok with
   | false=>exact hq
   | true=>exact yc.tupleL (vs:=[y,.bool c]) (RL.cons hq (RL.cons (.v _ _ _ (.bool c)) RL.nil))
  cases o with
  | some e =>
   obtain ⟨j,y⟩:=e;obtain ⟨q,hq,hK⟩:=hm;refine z8.same S ?_ (tup (c:=true) hq) hK;simp [Sem.run_bind,hck,hf]
  | none =>
   refine z8.same S ?_ (tup (c:=false) hzr) hm;simp [Sem.run_bind,hck,hf,hz]
 have e:∀w0:World,(underlying t).run P w0= .ok (.map kt i.elem) w0:=fun w0=>run_underlying hd w0;split at h
 .-- a map
  rename_i id;simp only [Dec.cps] at h;have ok':=S.ok id;split at h;rotate_left
  .simp [Dec.cps] at h
  rename_i es hB;rw [hB] at ok';obtain ⟨b,ms,clock,hl,hheap,hsz,hr⟩:=ok';cases hp with
  | map _ b' hU hμ =>
   rw [hμ] at hl;injection hl with e1;subst e1;obtain ⟨q,H',y,w',μ',g1,g2⟩:=fin ms.toList ms.isEmpty (zkR es ms.toList 0 (MR.of_blk hsz hr) h);refine ⟨q,H',y,w',μ',?_,g2⟩;rw [<-g1];simp only [Instr.lookup,Sem.run_bind,e,Result.andThen_ok,MapKept.run_getObj_map hheap,Sem.run_pure];rfl
 .simp only [Dec.cps] at h;cases hp with
  | nilm =>
   obtain ⟨q,H',y,w',μ',g1,g2⟩:=fin [] true ⟨none,rfl,h⟩;refine ⟨q,H',y,w',μ',?_,g2⟩;rw [<-g1];simp only [Instr.lookup,Sem.run_bind,e,Result.andThen_ok,Sem.run_pure];rfl
 .simp [Dec.cps] at h
theorem zqO {t:Nat}{fresh:Nat}(S:z9 A0 μ H w) (F:Zv H fresh A0 w) (h:(Dec.wr fresh (.map true []) (.ret (.map fresh)):Dec E (zj E)).cps H K=some r):z8 P A0 μ H w (Instr.makeMap t none) K r:=by
 simp only [Dec.cps] at h;cases hlt:Nat.blt fresh H.length with
 | false=>simp [hlt] at h
 | true =>
  simp only [hlt,zI] at h;have q:=yv.alloc w (.map #[] 0);have hb:∀b,b<w.heap.size->(w.alloc (.map #[] 0)).heap[b]? =w.heap[b]? :=fun b hb=>by show (w.heap.push _)[b]? =_;rw [zCU,ze]
  have T:=z3.fresh (A0:=A0) (μ:=μ) fresh (.blk w.heap.size 0 0 0) (.map true []) F.free F.lt q hb (fun b o n c e=>by injection e with e;omega);refine ⟨_,_,.map (some w.heap.size),_,_,?_,T,S.fresh fresh (.blk w.heap.size 0 0 0) (.map true []) F.free F.lt q hb (fun b o n c e=>by injection e with e;subst e;exact ⟨zBm _,by show w.heap.size<(w.heap.push _).size;simp⟩) F.A0 ?_,.map fresh w.heap.size ?_ (vv _ _ _),h⟩
  .simp [Instr.makeMap]
  .exact ⟨w.heap.size,#[],0,rfl,by show (w.heap.push _)[w.heap.size]? =_;simp,rfl,fun j hj=>by simp at hj⟩
  .unfold Us;rw [yr H fresh _ F.lt];rfl
theorem zvd {id b clock:Nat}{i:Int}{x:zj E}{u:Value}{ms:Array MapEntry}{es0:List (zj E×zj E)}(S:z9 A0 μ H w) (hB:zn H id= .map true es0) (hU:Us H id) (hμ:μ id= .blk b 0 0 0) (hh:w.heap[b]? =some (.map ms clock)) (hx:Rp E A0 μ H w x u) :
  ∀(es acc:List (zj E×zj E)) (mA mR:List MapEntry),ms.toList=mA++mR->MR (Rp E A0 μ H w) acc mA->MR (Rp E A0 μ H w) es mR->(zle id i x acc es).cps H K=some r ->
   ∃o,Instr.findNow (.int .i64) (.int .i64 i) mR mA.length=some o/\zb2 P A0 μ H w (match o with
    | some (j,_)=>do
     let key <-Instr.keyThatStays (((ms[j]?).map (·.key)).getD (.int .i64 i)) (.int .i64 i)
     setObj b (.map (ms.modify j fun e=>{e with key,val:=u}) clock)
    | none=>setObj b (.map (ms.push {key:= .int .i64 i,val:=u,born:=clock}) (clock+1))) K r:=by
 have hlive:xu (zn H id)=true:=by rw [hB];rfl
 have fin:∀(es':List (zj E×zj E)) (ms':Array MapEntry) (c':Nat) (s:Sem Unit),MR (Rp E A0 μ H w) es' ms'.toList->s.run P w=(setObj b (.map ms' c')).run P w->(if Nat.blt id H.length then K .skip (H.set id (.map true es')) else none)=some r->zb2 P A0 μ H w s K r:=by
  intro es' ms' c' s hm hs hk;split at hk;rotate_left
  .cases hk
  have q:yv w {w with heap:=w.heap.setIfInBounds b (.map ms' c')}:=⟨rfl,rfl,rfl,by simp⟩
  have hbk:∀k,k<w.heap.size->(∀o n c,μ id≠ .blk k o n c)->(w.heap.setIfInBounds b (.map ms' c'))[k]? =w.heap[k]? :=fun k _ hk=>by
   rw [zCZ (fun e=>hk 0 0 0 (by rw [<-e];exact hμ))]
  have T:z3 A0 μ H w μ (H.set id (.map true es')) {w with heap:=w.heap.setIfInBounds b (.map ms' c')}:=z3.write id _ hU q hlive hbk rfl;refine ⟨_,_,μ,hs.trans (MapKept.run_setObj_map _ hh),T,S.write id _ hU q hlive hbk rfl ?_,hk⟩;have hlt:b<w.heap.size:=(zBP.1 hh).1;have hm2:=MR.to_blk (⟨hm.1,fun j p m h1 h2=>⟨T.rep (hm.2 j p m h1 h2).1,T.rep (hm.2 j p m h1 h2).2⟩⟩:MR (Rp E A0 μ (H.set id (.map true es')) {w with heap:=w.heap.setIfInBounds b (.map ms' c')}) es' ms'.toList);exact ⟨b,ms',c',hμ,by simp [hlt],hm2.1,hm2.2⟩
 intro es
 induction es with
 | nil =>
  intro acc mA mR hms hA hR h;have:mR=[]:=zB7 (by have:=hR.1;simpa using this.symm);subst this;refine ⟨none,rfl,fin (acc++[(.v (.int .i64) i,x)]) (ms.push {key:= .int .i64 i,val:=u,born:=clock}) (clock+1) _ ?_ rfl (by simpa [zle,Dec.cps,Bool.cond_eq_ite] using h)⟩;have e:(ms.push {key:= .int .i64 i,val:=u,born:=clock}).toList=mA++[{key:= .int .i64 i,val:=u,born:=clock}]:=by simp [hms]
  rw [e];exact hA.append (MR.cons (zmA i) hx MR.nil)
 | cons e es ih =>
  intro acc mA mR hms hA hR h;obtain ⟨m,ms',rfl,h1,h2,h3⟩:=hR.head;obtain ⟨k,y⟩:=e;have key:∃k':Int,k= .v (.int .i64) k':=by
   cases k with
   | v τ k' =>
    cases τ with
    | int kk=>cases kk<;>first | exact ⟨_,rfl⟩ | (simp [zle,Dec.cps] at h)
    | _=>simp [zle,Dec.cps] at h
   | _=>simp [zle,Dec.cps] at h
  obtain ⟨k,rfl⟩:=key;have hk:=zgr h1;simp only [zle,Dec.cps] at h;unfold Instr.findNow;rw [hk];simp only [Instr.sameNow,if_true];have hmj:ms[mA.length]? =some m:=by rw [<-zB1,hms,zBS (by omega)];simp
  by_cases e:i=k
  .subst e;simp only [decide_true,zI,Dec.cps] at h;simp only [beq_self_eq_true];refine ⟨_,rfl,fin (acc++(.v (.int .i64) i,x)::es) (ms.modify mA.length fun e=>{e with key:= .int .i64 i,val:=u}) clock _ ?_ ?_ (by simpa [Bool.cond_eq_ite] using h)⟩
   .have e2:(ms.modify mA.length fun e=>{e with key:= .int .i64 i,val:=u}).toList=mA++{m with key:= .int .i64 i,val:=u}::ms':=by
     apply List.ext_getElem?;intro j;rw [zB1,Array.getElem?_modify,<-zB1,hms];by_cases hj:mA.length=j
     .subst hj;rw [zb rfl,zBS (by omega),zBS (by omega)];simp
     .rw [zd hj];by_cases hlt:j<mA.length
      .rw [zBM hlt,zBM hlt]
      .rw [zBS (by omega),zBS (by omega)];obtain ⟨d,hd⟩:∃d,j-mA.length=d+1:=⟨j-mA.length-1,by omega⟩
       rw [hd];simp
    rw [e2];exact hA.append (MR.cons (zmA i) hx h3)
   .simp only [hmj,zCC,zCg,hk];simp [Instr.keyThatStays,Instr.sameBits,Sem.run_bind]
  .simp only [e,decide_false,yg] at h;have:(i==k)=false:=by simpa using e
   simp only [this];have:=ih (acc++[(.v (.int .i64) k,y)]) (mA++[m]) ms' (by simp [hms]) (hA.append (MR.cons h1 h2 MR.nil)) h3 h;simpa using this
theorem zrM (hT:yX E.leaves P tab=true) {t:Nat}{i:TI}(hi:look tab t=some i) {p k x:zj E}{v kv u:Value}(S:z9 A0 μ H w) (hp:Rp E A0 μ H w p v) (hk:Rp E A0 μ H w k kv) (hx:Rp E A0 μ H w x u)
  (h:(zpS i p k x).cps H K=some r):zb2 P A0 μ H w (Instr.mapUpdate t v kv u) K r:=by
 unfold zpS at h;split at h;rotate_left
 .simp [Dec.cps] at h
 rename_i hmp;obtain ⟨kt,hd,hkd⟩:=zw8 hT hi hmp;split at h;rotate_left
 .simp [Dec.cps] at h
 rename_i n;have hkv:=zgr hk;subst hkv;have hck:∀b:Bool,(Instr.checkKey b 10000 kt (.int .i64 n)).run P w= .ok () w:=fun b=>zl6 hkd b n w;split at h;rotate_left
 .simp [Dec.cps] at h
 rename_i id;simp only [Dec.cps] at h;have ok':=S.ok id;split at h;rotate_left
 .simp [Dec.cps] at h
 rename_i es hB;rw [hB] at ok';obtain ⟨b,ms,clock,hl,hheap,hsz,hr⟩:=ok';cases hp with
 | map _ b' hU hμ =>
  rw [hμ] at hl;injection hl with e1;subst e1;obtain ⟨o,ho,H',w',μ',g1,g2⟩:=zvd (P:=P) S hB hU hμ hheap hx es [] [] ms.toList rfl MR.nil (MR.of_blk hsz hr) h;have hf:(Instr.findKey kt (.int .i64 n) ms.toList).run P w= .ok o w:=by
   have ho:Instr.findNow (.int .i64) (.int .i64 n) ms.toList 0=some o:=ho;simp only [Instr.findKey,Sem.run_bind,run_underlying hkd,Result.andThen_ok,ho,Sem.run_pure]
  refine ⟨H',w',μ',?_,g2⟩;rw [<-g1];simp only [Instr.mapUpdate,Sem.run_bind,run_underlying hd,Result.andThen_ok,MapKept.run_getObj_map hheap,hck,hf];cases o with
  | none=>rfl
  | some e=>rfl
end
end Go.Pe
namespace Go.Pe
variable {E:yG}
section
variable {P:Program}{tab:List (Nat×TI)}{A0:Nat->Prop}{μ:Nat->Loc}{H:List (Blk E)}{w:World}{R:Type}{K:zj E->List (Blk E)->Option R}{r:R}
theorem zwG {t e D:Nat}(hd:P.underlying t=some (.slice e)) (a:Option Addr) (n cap:Nat):(Op.equalIn (D+1) t (.slice a n cap) (.slice none 0 0)).run P w= .ok a.isNone w:=by
 cases a<;>simp only [Op.equalIn,Sem.run_bind,run_underlying hd,Result.andThen_ok,Sem.run_pure,Option.isNone_none,Option.isNone_some]
theorem zuY {t e:Nat}(hd:P.underlying t=some (.slice e)) (a:Option Addr) (n cap:Nat) (x y:Operand) :
  (zds .eql t x y (.slice a n cap) (.slice none 0 0)).run P w= .ok (.bool a.isNone) w/\(zds .neq t x y (.slice a n cap) (.slice none 0 0)).run P w= .ok (.bool !a.isNone) w:=by
 have k:=zwG (P:=P) (w:=w) (D:=9999) hd a n cap;rw [yJ _ _ _ _ (by trivial),yJ _ _ _ _ (by trivial)];simp only [binOp,Sem.run_bind,Op.equal,Op.maxDepth,k,Result.andThen_ok,Sem.run_pure,and_self]
theorem zvW {A:Nat->Prop}{e:Ty}{v:Value}{l:List (Den E.T e)}(h:yz E w A (.slice e) v l):∃a n cap,v= .slice a n cap/\(l.isEmpty=false->a.isNone=false):=by
 cases h with
 | nil _ a cap=>exact ⟨a,0,cap,rfl,by simp⟩
 | slice _ b off cap l vs=>exact ⟨_,_,cap,rfl,fun _=>rfl⟩
theorem zvp (hT:yX E.leaves P tab=true) {t:Nat}{i:TI}(hi:look tab t=some i) {op:BinOp}{p:zj E}{v:Value}(x y:Operand) (S:z9 A0 μ H w)
  (hp:Rp E A0 μ H w p v) (h0:(zse i op p).cps H K=some r):z8 P A0 μ H w (zds op t x y v (.slice none 0 0)) K r:=by
 have key:∀f:Bool->Bool,(∀a n cap,v= .slice a n cap->(zds op t x y v (.slice none 0 0)).run P w= .ok (.bool (f a.isNone)) w)->(zse.go p f).cps H K=some r->z8 P A0 μ H w (zds op t x y v (.slice none 0 0)) K r:=by
  intro f hf h;have any:∀a n cap,v= .slice a n cap->(Dec.any fun b=>WY (f b):Dec E (zj E)).cps H K=some r->z8 P A0 μ H w (zds op t x y v (.slice none 0 0)) K r:=by
   intro a n cap hv h;simp only [Dec.cps] at h;obtain ⟨h1,h2⟩:=zxw h;have hr:=hf a n cap hv;cases hb:a.isNone with
   | true=>rw [hb] at hr;exact XN S h1 hr
   | false=>rw [hb] at hr;exact XN S h2 hr
  have emp:∀(c:Bool) a n cap,v= .slice a n cap->(c=false->a.isNone=false)->(Dec.br c (.any fun b=>WY (f b)) (WY (f false)):Dec E (zj E)).cps H K=some r->z8 P A0 μ H w (zds op t x y v (.slice none 0 0)) K r:=by
   intro c a n cap hv hc h;cases c with
   | true=>exact any a n cap hv h
   | false =>
    have hr:=hf a n cap hv;rw [hc rfl] at hr;exact XN S h hr
  unfold zse.go at h;split at h
  .cases hp with
   | v _ _ _ hp =>
    obtain ⟨a,n,cap,rfl,hne⟩:=zvW hp;exact emp _ a n cap rfl hne h
  .cases hp with
   | nils a=>exact any a 0 0 rfl h
  .rename_i id;simp only [Dec.cps] at h;have ok:=S.ok id;cases hB:zn H id with
   | row wr e l =>
    rw [hB] at h ok;cases hp with
    | own id b off len cap hU hμ=>exact emp _ _ _ _ rfl (fun _=>rfl) h
    | own0 id a a2 hU hμ =>
     rw [hμ] at ok;rcases ok with ⟨b',off',cap',c,vs,hl,_⟩ | ⟨rfl,_⟩
     .cases hl
     .exact any a 0 0 rfl h
   | _=>rw [hB] at h;simp [Dec.cps] at h
  .cases hp with
   | bsl id n b hU hμ =>
    have hr:=hf _ _ _ rfl;exact XN S h hr
  .simp [Dec.cps] at h
 unfold zse at h0;split at h0;rotate_left
 .simp [Dec.cps] at h0
 rename_i hsl;have hd:=zj2 hT hi hsl;split at h0
 .exact key (fun b=>b) (fun a n cap hv=>by rw [hv];exact (zuY hd a n cap x y).1) h0
 .exact key (fun b=> !b) (fun a n cap hv=>by rw [hv];exact (zuY hd a n cap x y).2) h0
 .simp [Dec.cps] at h0
end
end Go.Pe
namespace Go.Pe
variable {E:yG}
section
variable {P:Program}{tab:List (Nat×TI)}{A0:Nat->Prop}{μ:Nat->Loc}{H:List (Blk E)}{w:World}{R:Type}{K:zj E->List (Blk E)->Option R}{r:R}
theorem zuf (hT:yX E.leaves P tab=true) {t1 t2:Nat}{i:TI}{type:TypeId}{e:Ty}(hi:look tab t1=some i) (hty:i.ty=some (.slice e)) {p x:zj E}{v xv:Value}
  (S:z9 A0 μ H w) (hp:Rp E A0 μ H w p v) (hx:Rp E A0 μ H w x xv)
  (h00:(zvH e p x).cps H K=some r):z8 P A0 μ H w (Builtin.copy_ #[t1,t2] type #[v,xv]) K r:=by
 obtain ⟨u,hu,hut,hs0,hd,hna⟩:=Up hT hi hty;have hsz:=ul hT e hu hut;unfold zvH at h00;obtain ⟨l2,H0,T0,S0,hl2,hfr,h⟩:=zby S hx h00;clear h00;obtain ⟨a2,c2,rfl⟩:=zqe hl2;obtain ⟨new,vs2,hrows,hnew⟩:=zaT (P:=P) hl2;rw [hsz] at hnew;have hp0:=T0.rep hp;unfold zy7 at h;split at h;rotate_left
 .simp [Dec.cps] at h
 rename_i id;simp only [Dec.cps] at h;have ok:=S0.ok id;cases hB:zn H0 id with
 | row wr e' l =>
  rw [hB] at h ok;cases wr with
  | false=>simp [Dec.cps] at h
  | true =>
   simp only at h;split at h;rotate_left
   .simp [Dec.cps] at h
   rename_i l0 hcast;obtain ⟨he,rfl⟩:=wz hcast;injection he with he;have he:=he.symm;subst he;have hlen:l2.length=l.length:=by
    by_cases hc:l2.length=l.length
    .exact hc
    .simp [hc,Dec.cps] at h
   simp only [Dec.cps,hlen,decide_true,zI] at h;have fin0:∀ {base:Option Addr}{cap:Nat},l2=[]->(Builtin.copy_ #[t1,t2] type #[.slice base 0 cap,.slice a2 l2.length c2]).run P w= .ok (.int .i64 0) w:=by
    intro base cap hnil;subst hnil;have hn0:=hnew w rfl;have hnew0:new= #[]:=by have:=hrows.size;simpa using this
    subst hnew0;simp only [zB4] at hn0;cases base<;>simp [Builtin.copy_,run_underlying hd,xk hT hu,Builtin.lenOf,hn0,storeCells,goInt]
   cases hem:l2.isEmpty with
   | true =>
    have hnil:l2=[]:=by simpa using hem
    simp only [hem,zI,Dec.cps] at h;have hl0:l=[]:=zB7 (by rw [<-hlen,hnil];rfl);subst hl0;cases hp0 with
    | own id b off len cap hU' hμ =>
     rw [hμ] at ok;rcases ok with ⟨b',off',cap',c,vs,hl,hbox,g1,g2,g3,g4⟩ | ⟨_,a,hl⟩
     .injection hl with e1 e2 e3 e4;subst e1 e2 e3 e4;exact ⟨_,_,_,w,μ,fin0 hnil,T0,S0,.v _ _ _ (.int .i64 0),h⟩
     .cases hl
    | own0 id a a2' hU' hμ=>exact ⟨_,_,_,w,μ,fin0 hnil,T0,S0,.v _ _ _ (.int .i64 0),h⟩
   | false =>
    simp only [hem,yg,Dec.cps] at h;cases hb:Nat.blt id H0.length with
    | false=>simp [hb] at h
    | true =>
     simp only [hb,zI] at h;have hlive:xu (zn H0 id)=true:=by rw [hB];rfl
     have hU:Us H0 id:=yA (yN hlive);cases hp0 with
     | own id b off len cap hU' hμ =>
      rw [hμ] at ok;rcases ok with ⟨b',off',cap',c,vs,hl,hbox,g1,g2,g3,g4⟩ | ⟨_,a,hl⟩;rotate_left
      .cases hl
      injection hl with e1 e2 e3 e4;subst e1 e2 e3 e4;obtain ⟨t',f,hh,hf⟩:=hbox;obtain rfl:=hf rfl;have hnsz:new.size=l.length*e.size E:=by have:=hrows.size;rw [hlen] at this;exact this
      have hmul:l.length*e.size E<=cap*e.size E:=zCl _ g1;have hst:=run_storeCells_at P b off t' new.toList 0 c w hh (by simp [hnsz];omega) (hrows.one hna);have hrun:(Builtin.copy_ #[t1,t2] type #[.slice (some ⟨b,off,none⟩) l.length cap,.slice a2 l2.length c2]).run P w= .ok (.int .i64 (l2.length:Int)) (w.setRow b (c.toList.take (off+0)++new.toList++c.toList.drop (off+0+new.toList.length)).toArray):=by
       have hn:=hnew w rfl;have hmin:Nat.min l2.length l.length=l2.length:=by rw [hlen];exact Nat.min_self _
       simp [Builtin.copy_,run_underlying hd,xk hT hu,Builtin.lenOf,hmin,hn,goInt,hst]
      have hbk:∀k,k<w.heap.size->(∀o n c,μ id≠ .blk k o n c)->(w.setRow b (c.toList.take (off+0)++new.toList++c.toList.drop (off+0+new.toList.length)).toArray).heap[k]? =w.heap[k]? :=
       fun k _ hk=>setRow_other _ _ _ _ (fun e=>hk off l.length cap (e▸hμ))
      have T:z3 A0 μ H0 w μ (H0.set id (.row true e l2)) _:=z3.write id _ hU (yv.setRow w b _) hlive hbk rfl;refine ⟨_,_,_,_,μ,hrun,T0.trans T,S0.write id _ hU (yv.setRow w b _) hlive hbk rfl ?_,.v _ _ _ (.int .i64 _),by rw [hlen];exact h⟩;rw [hμ,<-hlen];have hcs:c.toList.length=c.size:=rfl;refine .inl ⟨b,off,cap,_,vs2,rfl,⟨t',(0,0),setRow_heap _ _ _ _ _ _ hh,fun _=>rfl⟩,by rw [hlen];exact g1,?_,fun i hi j v hv=>?_,fun i hi=>T.repT (hrows.rep i hi)⟩
      .simp only [List.size_toArray,zBz,zCq,zCz,zCk,hnsz];omega
      .have:=hrows.at_ i hi j v hv;have hj:i*e.size E+j<new.size:=(zBP.1 this).1;rw [zCS,zBu,zBS (by simp;omega)];have e2:off+i*e.size E+j-(List.take (off+0) c.toList).length=i*e.size E+j:=by
        simp only [zCq,zCk,zCd];have:off<=c.size:=by omega
        omega
       rw [e2,zBM (by simpa using hj)];simpa using this
     | own0 id a a2' hU' hμ =>
      rw [hμ] at ok;rcases ok with ⟨b',off',cap',c,vs,hl,_⟩ | ⟨rfl,_⟩
      .cases hl
      .have:l2=[]:=zB7 (by rw [hlen];rfl);subst this;cases hem
 | _=>rw [hB] at h;simp [Dec.cps] at h
end
end Go.Pe
namespace Go.Pe
variable {E:yG}
section
variable {P:Program}{tab:List (Nat×TI)}{A0:Nat->Prop}{μ:Nat->Loc}{H:List (Blk E)}{w:World}{R:Type}{K:zj E->List (Blk E)->Option R}{r:R}
def zaX (P:Program) (A0:Nat->Prop) (μ:Nat->Loc) (H:List (Blk E)) (w:World) {R:Type}(s:Sem Next) (K:zj E->List (Blk E)->Option R) (r:R):Prop :=
 ∃p H' n v w' μ',s.run P w= .ok n w'/\(n= .value v\/(n= .skip/\v=undef))/\z3 A0 μ H w μ' H' w'/\z9 A0 μ' H' w'/\Rp E A0 μ' H' w' p v/\K p H'=some r
theorem z8.op {s:Sem Value}(h:z8 P A0 μ H w s K r):zaX P A0 μ H w (do pure (.value (<-s))) K r:=by
 obtain ⟨p,H',v,w',μ',h1,h2,h3,h4,h5⟩:=h;exact ⟨p,H',.value v,v,w',μ',by simp [Sem.run_bind,h1],.inl rfl,h2,h3,h4,h5⟩
theorem zb2.op {s:Sem Unit}(h:zb2 P A0 μ H w s K r):zaX P A0 μ H w (do s;pure .skip) K r:=by
 obtain ⟨H',w',μ',h1,h2,h3,h5⟩:=h;exact ⟨.skip,H',.skip,undef,w',μ',by simp [Sem.run_bind,h1],.inr ⟨rfl,rfl⟩,h2,h3,.skip,h5⟩
theorem zaX.same {s:Sem Next}{v:Value}{p:zj E}(S:z9 A0 μ H w) (h:s.run P w= .ok (.value v) w) (hp:Rp E A0 μ H w p v) (hk:K p H=some r):zaX P A0 μ H w s K r :=
 ⟨p,H,_,v,w,μ,h,.inl rfl,z3.refl _ _ _ _,S,hp,hk⟩
theorem zjX {ρ:Operand->zj E}{ρv:Operand->Value}(hρ:∀x,Rp E A0 μ H w (ρ x) (ρv x)) (o:Option Operand):zmf (Rp E A0 μ H w) (o.map ρ) (o.map ρv):=by
 cases o with
 | none=>trivial
 | some x=>exact hρ x
theorem zap {ρ:Operand->zj E}{ρv:Operand->Value}(hρ:∀x,Rp E A0 μ H w (ρ x) (ρv x)) (l:List Operand):RL (Rp E A0 μ H w) (l.map ρ) (l.map ρv) :=
 ⟨by simp,fun j p v hp hv=>by
  simp only [zBQ,zBD] at hp hv;obtain ⟨a,ha,rfl⟩:=hp;obtain ⟨a',ha',rfl⟩:=hv;rw [ha] at ha';injection ha' with ha';subst ha';exact hρ a⟩
theorem RL.two {R:zj E->Value->Prop}{a b:zj E}{vs:List Value}(h:RL R [a,b] vs):∃x y,vs=[x,y]/\R a x/\R b y:=by
 have:=h.1
 match vs,this with
 | [x,y],_=>exact ⟨x,y,rfl,h.2 0 _ _ rfl rfl,h.2 1 _ _ rfl rfl⟩
theorem RL.three {R:zj E->Value->Prop}{a b c:zj E}{vs:List Value}(h:RL R [a,b,c] vs):∃x y z,vs=[x,y,z]/\R a x/\R b y/\R c z:=by
 have:=h.1
 match vs,this with
 | [x,y,z],_=>exact ⟨x,y,z,rfl,h.2 0 _ _ rfl rfl,h.2 1 _ _ rfl rfl,h.2 2 _ _ rfl rfl⟩
theorem zaW {k:IntKind}{x:Den E.T (.int k)}{v:Value}(h:Rp E A0 μ H w (.v (.int k) x) v):v= .int k (toZ k x):=by
 cases h with | v _ _ _ h=>cases h;rfl
theorem ztr {s:Sem Value}{f:Value->Value->Sem Value}{g:(k:IntKind)->z6 k->z6 k->Option (z6 k)}(hfg:∀ {k:IntKind}{a b c:z6 k},g k a b=some c->(f (.int k (toZ k a)) (.int k (toZ k b))).run P w= .ok (.int k (toZ k c)) w)
  {ps:List (zj E)}{vs:List Value}(S:z9 A0 μ H w) (hr:RL (Rp E A0 μ H w) ps vs)
  (h:(match ps with
   | [.v (.int .i64) a,.v (.int .i64) b]=>Y0 .i64 (g .i64 a b)
   | [.v (.int .u64) a,.v (.int .u64) b]=>Y0 .u64 (g .u64 a b)
   | [.v (.int .i64) a,.v (.int .i64) b,.v (.int .i64) c]=>(match g .i64 a b with | some x=>Y0 .i64 (g .i64 x c) | none=>.fail)
   | _=>(.fail:Dec E (zj E))).cps H K=some r) (hs:∀x rest,vs=x::rest->s=rest.foldlM f x):z8 P A0 μ H w s K r:=by
 split at h
 .obtain ⟨x,y,rfl,h1,h2⟩:=hr.two;cases zaW h1;cases zaW h2;exact Zr S h fun z hz=>by rw [hs _ _ rfl];simp [List.foldlM,Sem.run_bind,hfg hz]
 .obtain ⟨x,y,rfl,h1,h2⟩:=hr.two;cases zaW h1;cases zaW h2;exact Zr S h fun z hz=>by rw [hs _ _ rfl];simp [List.foldlM,Sem.run_bind,hfg hz]
 .obtain ⟨x,y,z,rfl,h1,h2,h3⟩:=hr.three;cases zaW h1;cases zaW h2;cases zaW h3;split at h
  .rename_i q hq;exact Zr S h fun z hz=>by rw [hs _ _ rfl];simp [List.foldlM,Sem.run_bind,hfg hq,hfg hz]
  .simp [Dec.cps] at h
 .simp [Dec.cps] at h
theorem zkc {x:Den E.T .bool}{v:Value}(h:Rp E A0 μ H w (.v .bool x) v):v= .bool x:=by
 cases h with | v _ _ _ h=>cases h;rfl
theorem zxs (hT:yX E.leaves P tab=true) {mv:Bool}{fresh:Nat}{ρ:Operand->zj E}{ρv:Operand->Value}{o:Oper}(S:z9 A0 μ H w) (F:Zv H fresh A0 w)
  (hρ:∀x,Rp E A0 μ H w (ρ x) (ρv x)) (hcv:∀c,ρv (.const c)=c) (h:(opD tab mv fresh ρ o.op).cps H K=some r):zaX P A0 μ H w (execOp ρv o) K r:=by
 have lk:∀ {t:Nat}{k:TI->Dec E (zj E)},(match look tab t with | some i=>k i | none=>.fail).cps H K=some r->∃i,look tab t=some i/\(k i).cps H K=some r:=by
  intro t k h;cases hl:look tab t with
  | none=>rw [hl] at h;simp [Dec.cps] at h
  | some i=>rw [hl] at h;exact ⟨i,rfl,h⟩
 obtain ⟨op,dst,type,pos,guard,after⟩:=o;unfold opD at h;simp only at h;split at h
 .exact zaX.same S rfl (hρ _) h
 .exact zaX.same S rfl (hρ _) h
 .-- pick
  split at h;rotate_left
  .simp [Dec.cps] at h
  rename_i c a b _ t hc;have:=hρ c;rw [hc] at this;have hv:=zkc this;simp only [execOp,hv];cases t with
  | true=>exact zaX.same S (by simp [asBool]) (hρ a) h
  | false=>exact zaX.same S (by simp [asBool]) (hρ b) h
 .-- alloc
  obtain ⟨i,hi,h⟩:=lk h;exact (ztj hT hi S F h).op
 .obtain ⟨i,hi,h⟩:=lk h;exact (zvL hT hi S F (hρ _) h).op
 .obtain ⟨i,hi,h⟩:=lk h;rename_i parts _ _ _;have e:∀parts:Array (Nat×Operand),(parts.map fun (i,x)=>(i,ρv x))=(parts.toList.map fun p=>(p.1,ρv p.2)).toArray:=fun parts=>by apply zCF.1;simp
  simp only [execOp,e];exact (zr9 hT hi S hρ h).op
 .obtain ⟨i,hi,h⟩:=lk h;obtain ⟨u,hu,h⟩:=lk h;exact (zmX hT hi hu S F hρ h).op
 .obtain ⟨i,hi,h⟩:=lk h;exact (ztW hT hi S (hρ _) h).op
 .obtain ⟨i,hi,h⟩:=lk h;exact (ztG hT hi S (hρ _) (hρ _) h).op
 .-- nilCheck
  rename_i x;have hx:=hρ x;simp only [execOp];generalize ρv x=vx at hx ⊢;generalize ρ x=px at hx h;split at h
  .cases hx with
   | ptr id off b len cap u m=>exact zaX.same S rfl (.ptr _ _ b len cap u m) h
  .cases hx with
   | eptr e id i off b o len cap u m hi=>exact zaX.same S rfl (.eptr _ _ _ _ b o len cap u m hi) h
  .cases hx with
   | rptr ps b o us a1 a2 a3 a4=>exact zaX.same S rfl (.rptr _ b o us a1 a2 a3 a4) h
  .cases hx with
   | fn f ps cs hs hh=>exact zaX.same S rfl (.fn _ _ cs hs hh) h
  .simp [Dec.cps] at h
 .obtain ⟨i,hi,h⟩:=lk h;split at h
  .rename_i y _ _ hc;have e:ρv y= .slice none 0 0:=by
    unfold zwu at hc;split at hc
    .exact hcv _
    .cases hc
   simp only [execOp,e];exact (zvp hT hi _ _ S (hρ _) h).op
  .exact (zvi hT hi _ _ S (hρ _) (hρ _) h).op
 .exact (zwR S (hρ _) h).op
 .obtain ⟨j,hj,h⟩:=lk h;obtain ⟨i,hi,h⟩:=lk h;exact (ztS hT hi hj S (hρ _) h).op
 .-- makeFunc
  rename_i f first captured
  split at h
  .rename_i hf;have hf:first= #[]:=by simpa using hf
   subst hf;refine (z8.same (v:= .func (.func f) #[] (captured.toList.map ρv).toArray) S ?_ (.fn f _ _ (zap hρ _).idx.1 (zap hρ _).idx.2) h).op;simp only [Instr.makeFunc,Sem.run_pure];congr 2
   all_goals (apply zCF.1;simp)
  .split at h;rotate_left
   .simp [Dec.cps] at h
   rename_i hf;have hf:captured= #[]:=by simpa using hf
   subst hf;refine (z8.same (v:= .func (.func f) (first.toList.map ρv).toArray #[]) S ?_ (.bfn f _ _ (zap hρ _).idx.1 (zap hρ _).idx.2) h).op;simp only [Instr.makeFunc,Sem.run_pure];congr 2
   all_goals (apply zCF.1;simp)
 .obtain ⟨i,hi,h⟩:=lk h;split at h;rotate_left
  .simp [Dec.cps] at h
  rename_i hty;exact (zns hT hi hty S F (hρ _) (hρ _) h).op
 .obtain ⟨i,hi,h⟩:=lk h;exact (zsJ hT hi S F (hρ _) (zjX hρ _) (zjX hρ _) (zjX hρ _) h).op
 .obtain ⟨i,hi,h⟩:=lk h;exact (znK hT hi S (hρ _) h).op
 .obtain ⟨i,hi,h⟩:=lk h;exact (ztA hT hi S (hρ _) h).op
 .rename_i ix;obtain ⟨i,hi,h⟩:=lk h;obtain ⟨u,hu,h⟩:=lk h;split at h;rotate_left
  .simp [Dec.cps] at h
  rename_i k e;have hx:=hρ ix;rw [e] at hx;have hv:=zaW hx;simp only [execOp,hv];exact (znB hT hi hu S (hρ _) h).op
 .rename_i ix;obtain ⟨i,hi,h⟩:=lk h;obtain ⟨u,hu,h⟩:=lk h;split at h;rotate_left
  .simp [Dec.cps] at h
  rename_i k e;have hx:=hρ ix;rw [e] at hx;have hv:=zaW hx;simp only [execOp,hv];exact (ztK hT hi hu S (hρ _) h).op
 .exact (zqO S F h).op
 .obtain ⟨i,hi,h⟩:=lk h;exact (zrM hT hi S (hρ _) (hρ _) (hρ _) h).op
 .obtain ⟨i,hi,h⟩:=lk h;obtain ⟨u,hu,h⟩:=lk h;exact (zqE hT hi hu S (hρ _) (hρ _) h).op
 .-- extract
  rename_i t n;split at h;rotate_left
  .simp [Dec.cps] at h
  rename_i vs e;split at h;rotate_left
  .simp [Dec.cps] at h
  rename_i p hp;have hx:=hρ t;rw [e] at hx;simp only [execOp];generalize ρv t=vt at hx ⊢;cases hx with
  | tuple ps cs hs hh =>
   have hlt:=(zBt.1 hp).1;have h1:=hh n hlt;rw [(zBt.1 hp).2] at h1;have hlt':n<cs.size:=by rw [hs];exact hlt
   refine (z8.same (v:=cs.getD n undef) S ?_ h1 h).op;simp [Instr.extract,hlt']
 .-- len
  split at h;rotate_left
  .simp [Dec.cps] at h
  rename_i args _ _ _ t x ht hx;obtain ⟨i,hi,h⟩:=lk h;have:=(zvn (type:=type) hT hi ht (av:=(Array.map ρv args)) (v:=ρv x) (by simp [hx]) S (hρ x) h).op;simpa [execOp,resolve,invoke,builtin] using this
 .-- append
  split at h;rotate_left
  .simp [Dec.cps] at h
  rename_i t t2 x y ht hx;obtain ⟨i,hi,h⟩:=lk h;obtain ⟨j,hj,h⟩:=lk h;split at h;rotate_left
  .simp [Dec.cps] at h
  rename_i e hty;have e1:∀ {α:Type}{a:Array α}{l:List α},a.toList=l->a=l.toArray:=fun h=>by rw [<-h]
  have ha:=e1 hx;have hb:=e1 ht;split at h
  .rename_i hs;have:=(zrG (type:=type) hT hi hj hty hs S F (hρ x) (hρ y) h).op;simpa [execOp,resolve,invoke,builtin,ha,hb] using this
  .split at h;rotate_left
   .simp [Dec.cps] at h
   rename_i hs;have:=(zqG (type:=type) hT hi hj hty hs S F (hρ x) (hρ y) h).op;simpa [execOp,resolve,invoke,builtin,ha,hb] using this
 .-- copy
  split at h;rotate_left
  .simp [Dec.cps] at h
  rename_i t t2 x y ht hx;obtain ⟨i,hi,h⟩:=lk h;obtain ⟨j,hj,h⟩:=lk h;split at h;rotate_left
  .simp [Dec.cps] at h
  rename_i e hty;have e1:∀ {α:Type}{a:Array α}{l:List α},a.toList=l->a=l.toArray:=fun h=>by rw [<-h]
  have ha:=e1 hx;have hb:=e1 ht;split at h
  .rename_i hs;have:=(zuf (t2:=t2) (type:=type) hT hi hty S (hρ x) (hρ y) h).op;simpa [execOp,resolve,invoke,builtin,ha,hb] using this
  .simp [Dec.cps] at h
 .rename_i args argTypes;have:=(ztr (P:=P) (s:=Builtin.min_ argTypes type (args.map ρv)) (f:=Builtin.min2) (g:= @znf) (fun h=>zyZ h) S (zap hρ _) h (fun x rest e=>by
   have e2:(args.map ρv).toList=x::rest:=by simpa using e
   simp only [Builtin.min_,e2])).op
  simpa [execOp,resolve,invoke,builtin] using this
 .rename_i args argTypes;have:=(ztr (P:=P) (s:=Builtin.max_ argTypes type (args.map ρv)) (f:=Builtin.max2) (g:= @znu) (fun h=>zyV h) S (zap hρ _) h (fun x rest e=>by
   have e2:(args.map ρv).toList=x::rest:=by simpa using e
   simp only [Builtin.max_,e2])).op
  simpa [execOp,resolve,invoke,builtin] using this
 .simp [Dec.cps] at h
theorem zuq (c:Value):Rp E A0 μ H w (zmz c) c:=by
 have lit:∀ {k:IntKind}{n:Int},zoN k n=true->toZ k (zaa k n)=n:=by
  intro k n h;cases k<;>simp [zoN] at h<;>simp [toZ,zaa,zB9]<;>omega
 have one:∀c:Value,Rp E A0 μ H w ((fun | .bool b=>.v .bool b | .int k n=>if zoN k n then .v (.int k) (zaa k n) else .any | .slice none 0 0=>.nils | .string s=>.v .str s | .nilFunc=>.nilfn | .pointer none=>.nilp | _=>.any:Value->zj E) c) c:=by
  intro c;simp only;split
  .exact .v _ _ _ (.bool _)
  .split
   .rename_i k n hl;have:=yz.int (E:=E) (w:=w) (A:=Av A0 μ H) k (zaa k n);rw [lit hl] at this;exact .v _ _ _ this
   .exact .any _
  .exact .nils _
  .exact .v _ _ _ (.str _)
  .exact .nilfn
  .exact .nilp
  .exact .any _
 unfold zmz;split
 .exact .v _ _ _ (.bool _)
 .split
  .rename_i k n hl;have:=yz.int (E:=E) (w:=w) (A:=Av A0 μ H) k (zaa k n);rw [lit hl] at this;exact .v _ _ _ this
  .exact .any _
 .exact .v _ _ _ (.str _)
 .exact .nils _
 .exact .nilfn
 .exact .nilp
 .exact .nilm
 .rename_i cs;refine .agg _ _ (by simp) fun i hi=>?_;have hi':i<cs.size:=by simpa using hi
  simp only [List.getElem_map,Array.getElem_toList];have e:cs.getD i undef=cs[i]:=by simp [Array.getD,hi']
  rw [e];exact one _
 .exact .any _
end
end Go.Pe
namespace Go.Pe
variable {E:yG}
def Ren.le (ρ ρ':Ren):Prop:=∀j x,ρ.get j=some x->ρ'.get j=some x
theorem Ren.le_refl (ρ:Ren):ρ.le ρ:=fun _ _ h=>h
theorem Ren.le.trans {a b c:Ren}(h:a.le b) (k:b.le c):a.le c:=fun j x e=>k j x (h j x e)
theorem Ren.get_append (ρ:Ren) (j i:Nat) (x:Option Nat):Ren.get (ρ++[(j,x)]) i=match ρ.get i with | some y=>some y | none=>if j=i then some x else none:=by
 induction ρ with
 | nil =>
  show (if Nat.beq j i=true then some x else Ren.get [] i)=_;simp only [Ren.get];by_cases h:j=i
  .subst h;simp
  .rw [zd (by simpa using h),zd h]
 | cons a ρ ih =>
  obtain ⟨k,y⟩:=a;show (if Nat.beq k i=true then some y else Ren.get (ρ++[(j,x)]) i)=match (if Nat.beq k i=true then some y else Ren.get ρ i) with | some y=>some y | none=>if j=i then some x else none
  split
  .rfl
  .exact ih
theorem Ren.bind_some {ρ ρ':Ren}{j:Nat}{x:Option Nat}(h:ρ.bind j x=some ρ'):ρ.le ρ'/\ρ'.get j=some x:=by
 unfold Ren.bind at h;split at h
 .rename_i hn;injection h with h;subst h;refine ⟨fun i y hy=>by rw [Ren.get_append,hy],by rw [Ren.get_append,hn];simp⟩
 .rename_i y hy;split at h
  .split at h
   .rename_i z hz;have hz:=zBs hz;injection h with h;subst h hz;exact ⟨Ren.le_refl _,hy⟩
   .cases h
  .cases h
 .cases h
section
variable {A0:Nat->Prop}{μ:Nat->Loc}{H:List (Blk E)}{w:World}{A':Nat->Prop}{U':Nat->Prop}{M:Nat->Loc}{N:Nat->Nat}
def HC (H:List (Blk E)) (G:List Nat->Prop):List Ty->List (zj E)->List (zj E)->Prop
 | [],[],[]=>True
 | t::ts,p::ps,q::qs=>(∃x ids,q= .v t x/\toT t p H=some (x,ids)/\G ids)/\HC H G ts ps qs
 | _,_,_=>False
theorem HC.split {G:List Nat->Prop}:∀ {a b:List Ty}{p1 p2 qs:List (zj E)},p1.length=a.length->HC H G (a++b) (p1++p2) qs->∃q1 q2,qs=q1++q2/\HC H G a p1 q1/\HC H G b p2 q2
 | [],b,[],p2,qs,_,h=>⟨[],qs,rfl,trivial,h⟩
 | [],_,_::_,_,_,hl,_=>by simp at hl
 | _::_,_,[],_,_,hl,_=>by simp at hl
 | t::a,b,p::p1,p2,[],hl,h=>by simp [HC] at h
 | t::a,b,p::p1,p2,q::qs,hl,h=>by
  simp only [zCG,HC] at h;obtain ⟨q1,q2,rfl,h1,h2⟩:=HC.split (by simpa using hl) h.2;exact ⟨q::q1,q2,rfl,⟨h.1,h1⟩,h2⟩
theorem zuG {G:List Nat->Prop}:∀ {hs:List Ty}{ps:List (zj E)}{x:HL E.T hs}{ids:List Nat},(∀l,(∀i∈l,i∈ids)->G l)->X1 hs ps H=some (x,ids)->HC H G hs ps (HL.toP hs x)
 | [],[],x,ids,_,_=>trivial
 | [],_::_,_,_,_,h=>by simp [X1] at h
 | _::_,[],_,_,_,h=>by simp [X1] at h
 | t::ts,p::ps,x,ids,hG,h=>by
  simp only [X1,zBw] at h;obtain ⟨⟨a1,a2⟩,ha,⟨b1,b2⟩,hb,he⟩:=h;simp at he;obtain ⟨rfl,rfl⟩:=he;exact ⟨⟨a1,a2,rfl,ha,hG a2 (fun i hi=>by simp [hi])⟩,zuG (fun l hl=>hG l (fun i hi=>by simp [hl i hi])) hb⟩
theorem zyv:∀ {hs:List Ty}{ps:List (zj E)}{x:HL E.T hs×List Nat},X1 hs ps H=some x->ps.length=hs.length
 | [],[],_,_=>rfl
 | [],_::_,_,h=>by simp [X1] at h
 | _::_,[],_,h=>by simp [X1] at h
 | t::ts,p::ps,x,h=>by
  simp only [X1,zBw] at h;obtain ⟨a,ha,b,hb,he⟩:=h;simp [zyv hb]
def MOk (U':Nat->Prop) (μ M:Nat->Loc) (N:Nat->Nat) (ρ:Ren):Prop:=∀j x,ρ.get j=some x->U' (N j)/\match x with | some id=>M (N j)=μ id | none=>∃a,M (N j)= .none a
theorem MOk.of_le {ρ ρ':Ren}(h:MOk U' μ M N ρ') (k:ρ.le ρ'):MOk U' μ M N ρ:=fun j x e=>h j x (k j x e)
abbrev zgt (μ:Nat->Loc) (A':Nat->Prop) (l:List Nat):Prop:=∀id∈l,∀b o n c,μ id= .blk b o n c->¬A' b
theorem zuV {w2:World}{A2 U2:Nat->Prop}{μ2:Nat->Loc}{w1:World}{A1 U1:Nat->Prop}{μ1:Nat->Loc}{fs:List FuncId}{v:Value}(h:yc E w1 A1 U1 μ1 (.agg (fs.map fun f=>.fn f [])) v):yc E w2 A2 U2 μ2 (.agg (fs.map fun f=>.fn f [])) v:=by
 cases h with
 | agg _ cs hs h =>
  refine .agg _ cs hs (fun i hi=>?_);have:=h i hi;rw [List.getElem_map] at this ⊢;generalize cs.getD i undef=u at this;cases this with
  | fn _ _ cs hs h=>exact .fn _ [] cs hs (fun j hj=>zk hj (Nat.not_lt_zero j))
mutual
theorem zud (S:z9 A0 μ H w) (hA:∀b,A' b->Av A0 μ H b):∀(k:SK) (p:zj E) (v:Value) (s s':Ren×List (zj E)),xM k p s=some s'->Rp E A0 μ H w p v ->
  ∃new,s'.2=s.2++new/\new.length=k.holes.length/\s.1.le s'.1/\∀qs rest,HC H (zgt μ A') k.holes new qs->MOk U' μ M N s'.1 ->
   yc E w A' U' M (xS N k (qs++rest)).1 v/\(xS N k (qs++rest)).2=rest/\(k.solid=true->(xS N k (qs++rest)).1.leaf=true)
 | .any,p,v,s,s',h,hp=>by
  simp only [xM,Option.some.injEq] at h;subst h;refine ⟨[],by simp,rfl,Ren.le_refl _,fun qs rest hc hm=>?_⟩;cases qs with
  | cons q qs=>simp [SK.holes,HC] at hc
  | nil=>exact ⟨.any v,rfl,fun h=>by cases h⟩
 | .val τ,p,v,s,s',h,hp=>by
  simp only [xM,Option.some.injEq] at h;subst h;refine ⟨[p],rfl,rfl,Ren.le_refl _,fun qs rest hc hm=>?_⟩
  match qs,hc with
  | [q],hc =>
   obtain ⟨⟨x,ids,rfl,hx,hg⟩,_⟩:=hc;exact ⟨.v _ _ _ (zrx S hp hx hA hg),rfl,fun h=>h⟩
 | .ptr j,p,v,s,s',h,hp=>by
  cases hp with
  | ptr id off b len cap u m =>
   simp only [xM] at h;split at h;rotate_left
   .cases h
   rename_i h0;have h0:=zBs h0;subst h0;simp only [zBD] at h;obtain ⟨ρ,hb,rfl⟩:=h;obtain ⟨h1,h2⟩:=Ren.bind_some hb;refine ⟨[],by simp,rfl,h1,fun qs rest hc hm=>?_⟩;cases qs with
   | cons q qs=>simp [SK.holes,HC] at hc
   | nil =>
    obtain ⟨hu,hM⟩:=hm j _ h2;exact ⟨.ptr _ _ b len cap hu (hM.trans m),rfl,fun _=>rfl⟩
  | _=>simp [xM] at h
 | .full e,p,v,s,s',h,hp=>by
  cases hp with
  | full e' l a hr =>
   simp only [xM] at h;split at h;rotate_left
   .cases h
   rename_i he;have he:e=e':=by simpa using he
   subst he;simp only [Option.some.injEq] at h;subst h;refine ⟨[.v (.slice e) l],rfl,rfl,Ren.le_refl _,fun qs rest hc hm=>?_⟩
   match qs,hc with
   | [q],hc =>
    obtain ⟨⟨x,ids,rfl,hx,hg⟩,_⟩:=hc;have e1:l=x:=by
     simp only [toT,vz,vC,dif_pos,zBk,Option.some.injEq,Prod.mk.injEq] at hx;exact hx.1
    subst e1;simp only [zCG,zBy,xS,zml,vC,dif_pos];exact ⟨.full _ _ _ (hr.less hA),trivial,fun _=>rfl⟩
  | _=>simp [xM] at h
 | .aptr e j,p,v,s,s',h,hp=>by
  cases hp with
  | eptr e' id k off b o len cap u m hlt =>
   simp only [xM] at h;split at h;rotate_left
   .cases h
   rename_i hc;simp only [zBl,decide_eq_true_eq] at hc;obtain ⟨⟨rfl,h0⟩,h1⟩:=hc;have h0:=zBs h0;have h1:=zBs h1;subst h0 h1;simp only [zBD] at h;obtain ⟨ρ,hb,rfl⟩:=h;obtain ⟨h1,h2⟩:=Ren.bind_some hb;refine ⟨[],by simp,rfl,h1,fun qs rest hc hm=>?_⟩;cases qs with
   | cons q qs=>simp [SK.holes,HC] at hc
   | nil =>
    obtain ⟨hu,hM⟩:=hm j _ h2;exact ⟨.eptr e _ 0 0 b o len cap hu (hM.trans m) hlt,rfl,fun _=>rfl⟩
  | _=>simp [xM] at h
 | .own j,p,v,s,s',h,hp=>by
  cases hp with
  | own id b off len cap u m =>
   simp only [xM,zBD] at h;obtain ⟨ρ,hb,rfl⟩:=h;obtain ⟨h1,h2⟩:=Ren.bind_some hb;refine ⟨[],by simp,rfl,h1,fun qs rest hc hm=>?_⟩;cases qs with
   | cons q qs=>simp [SK.holes,HC] at hc
   | nil =>
    obtain ⟨hu,hM⟩:=hm j _ h2;exact ⟨.own _ b off len cap hu (hM.trans m),rfl,fun _=>rfl⟩
  | own0 id a a2 u m =>
   simp only [xM,zBD] at h;obtain ⟨ρ,hb,rfl⟩:=h;obtain ⟨h1,h2⟩:=Ren.bind_some hb;refine ⟨[],by simp,rfl,h1,fun qs rest hc hm=>?_⟩;cases qs with
   | cons q qs=>simp [SK.holes,HC] at hc
   | nil =>
    obtain ⟨hu,hM⟩:=hm j _ h2;exact ⟨.own0 _ a a2 hu (hM.trans m),rfl,fun _=>rfl⟩
  | nils a =>
   simp only [xM,zBD] at h;obtain ⟨ρ,hb,rfl⟩:=h;obtain ⟨h1,h2⟩:=Ren.bind_some hb;refine ⟨[],by simp,rfl,h1,fun qs rest hc hm=>?_⟩;cases qs with
   | cons q qs=>simp [SK.holes,HC] at hc
   | nil =>
    obtain ⟨hu,a2,hM⟩:=hm j _ h2;exact ⟨.own0 _ a a2 hu hM,rfl,fun _=>rfl⟩
  | _=>simp [xM] at h
 | .bsl j n,p,v,s,s',h,hp=>by
  cases hp with
  | bsl id m b u hm' =>
   simp only [xM] at h;split at h;rotate_left
   .cases h
   rename_i h0;have h0:=zBs h0;subst h0;simp only [zBD] at h;obtain ⟨ρ,hb,rfl⟩:=h;obtain ⟨h1,h2⟩:=Ren.bind_some hb;refine ⟨[],by simp,rfl,h1,fun qs rest hc hm=>?_⟩;cases qs with
   | cons q qs=>simp [SK.holes,HC] at hc
   | nil =>
    obtain ⟨hu,hM⟩:=hm j _ h2;exact ⟨.bsl _ _ b hu (hM.trans hm'),rfl,fun _=>rfl⟩
  | _=>simp [xM] at h
 | .map j,p,v,s,s',h,hp=>by
  cases hp with
  | map id b u hm' =>
   simp only [xM,zBD] at h;obtain ⟨ρ,hb,rfl⟩:=h;obtain ⟨h1,h2⟩:=Ren.bind_some hb;refine ⟨[],by simp,rfl,h1,fun qs rest hc hm=>?_⟩;cases qs with
   | cons q qs=>simp [SK.holes,HC] at hc
   | nil =>
    obtain ⟨hu,hM⟩:=hm j _ h2;exact ⟨.map _ b hu (hM.trans hm'),rfl,fun _=>rfl⟩
  | _=>simp [xM] at h
 | .yld,p,v,s,s',h,hp=>by
  cases hp with
  | yld n i =>
   simp only [xM,Option.some.injEq] at h;subst h;refine ⟨[.v (.int .i64) n,.v (.int .i64) i],rfl,rfl,Ren.le_refl _,fun qs rest hc hm=>?_⟩
   match qs,hc with
   | [q1,q2],hc =>
    obtain ⟨⟨x,ids,rfl,hx,hg⟩,⟨x2,ids2,rfl,hx2,hg2⟩,_⟩:=hc;have e1:n=x:=by
     simp only [toT,vz,vC,dif_pos,zBk,Option.some.injEq,Prod.mk.injEq] at hx;exact hx.1
    have e2:i=x2:=by
     simp only [toT,vz,vC,dif_pos,zBk,Option.some.injEq,Prod.mk.injEq] at hx2;exact hx2.1
    subst e1 e2;exact ⟨.yld n i,rfl,fun h=>by cases h⟩
  | _=>simp [xM] at h
 | .nilfn,p,v,s,s',h,hp=>by
  cases hp with
  | nilfn =>
   simp only [xM,Option.some.injEq] at h;subst h;refine ⟨[],by simp,rfl,Ren.le_refl _,fun qs rest hc hm=>?_⟩;cases qs with
   | cons q qs=>simp [SK.holes,HC] at hc
   | nil=>exact ⟨.nilfn,rfl,fun _=>rfl⟩
  | _=>simp [xM] at h
 | .nils,p,v,s,s',h,hp=>by
  cases hp with
  | nils a =>
   simp only [xM,Option.some.injEq] at h;subst h;refine ⟨[],by simp,rfl,Ren.le_refl _,fun qs rest hc hm=>?_⟩;cases qs with
   | cons q qs=>simp [SK.holes,HC] at hc
   | nil=>exact ⟨.nils a,rfl,fun _=>rfl⟩
  | _=>simp [xM] at h
 | .fns fs,p,v,s,s',h,hp=>by
  cases hp with
  | agg ps cs hs hh =>
   simp only [xM] at h;split at h;rotate_left
   .cases h
   rename_i hb;have e:=zqU fs ps hb;subst e;simp only [Option.some.injEq] at h;subst h;refine ⟨[],by simp,rfl,Ren.le_refl _,fun qs rest hc hm=>?_⟩;cases qs with
   | cons q qs=>simp [SK.holes,HC] at hc
   | nil=>exact ⟨zuV (.agg _ cs hs hh),rfl,fun h=>by cases h⟩
  | _=>simp [xM] at h
 | .fn f ks,p,v,s,s',h,hp=>by
  cases hp with
  | fn g ps cs hs hh =>
   simp only [xM] at h;split at h;rotate_left
   .cases h
   rename_i h0;have h0:=zBs h0;subst h0;obtain ⟨new,e1,e2,e3,e4⟩:=Vw S hA ks ps cs.toList s s' h (RL.of_idx hs hh);refine ⟨new,e1,e2,e3,fun qs rest hc hm=>?_⟩;obtain ⟨r1,r2,_⟩:=e4 qs rest hc hm;refine ⟨?_,r2,fun _=>rfl⟩;exact .fn f _ cs r1.idx.1 r1.idx.2
  | _=>simp [xM] at h
theorem Vw (S:z9 A0 μ H w) (hA:∀b,A' b->Av A0 μ H b):∀(ks:List SK) (ps:List (zj E)) (vs:List Value) (s s':Ren×List (zj E)),Zt ks ps s=some s'->RL (Rp E A0 μ H w) ps vs ->
  ∃new,s'.2=s.2++new/\new.length=(SK.holesL ks).length/\s.1.le s'.1/\∀qs rest,HC H (zgt μ A') (SK.holesL ks) new qs->MOk U' μ M N s'.1 ->
   RL (yc E w A' U' M) (yC N ks (qs++rest)).1 vs/\(yC N ks (qs++rest)).2=rest/\(ks.all SK.solid=true->∀p∈(yC N ks (qs++rest)).1,p.leaf=true)
 | [],[],vs,s,s',h,hr=>by
  simp only [Zt,Option.some.injEq] at h;subst h;refine ⟨[],by simp,rfl,Ren.le_refl _,fun qs rest hc hm=>?_⟩;cases qs with
  | cons q qs=>simp [SK.holesL,HC] at hc
  | nil=>exact ⟨⟨by have:=hr.1;simpa [yC] using this,fun j p u hp=>by simp [yC] at hp⟩,rfl,fun _ p hp=>by simp [yC] at hp⟩
 | [],_::_,_,_,_,h,_=>by simp [Zt] at h
 | _::_,[],_,_,_,h,_=>by simp [Zt] at h
 | k::ks,p::ps,[],s,s',h,hr=>by have:=hr.1;simp at this
 | k::ks,p::ps,v::vs,s,s',h,hr=>by
  simp only [Zt] at h;split at h;rotate_left
  .cases h
  rename_i s1 h1;obtain ⟨n1,a1,a2,a3,a4⟩:=zud S hA k p v s s1 h1 (hr.2 0 p v rfl rfl);obtain ⟨n2,b1,b2,b3,b4⟩:=Vw S hA ks ps vs s1 s' h ⟨by have:=hr.1;simpa using this,fun j q u hq hu=>hr.2 (j+1) q u (by simpa using hq) (by simpa using hu)⟩;refine ⟨n1++n2,by rw [b1,a1,zBu],by simp [SK.holesL,a2,b2],a3.trans b3,fun qs rest hc hm=>?_⟩;obtain ⟨q1,q2,rfl,c1,c2⟩:=HC.split a2 hc;obtain ⟨r1,r2,r3⟩:=a4 q1 (q2++rest) c1 (hm.of_le b3);obtain ⟨t1,t2,t3⟩:=b4 q2 rest c2 hm;simp only [yC,zBu,r2];refine ⟨RL.cons r1 t1,t2,fun hs p hp=>?_⟩;simp only [List.all_cons,zBl] at hs;rcases zBG.1 hp with rfl | hp
  .exact r3 hs.1
  .exact t3 hs.2 p hp
end
end
end Go.Pe
namespace Go.Pe
variable {E:yG}
section
variable {A0:Nat->Prop}{μ:Nat->Loc}{H:List (Blk E)}{w:World}{A':Nat->Prop}{U':Nat->Prop}{M:Nat->Loc}{N:Nat->Nat}
def BC (w:World) (A' U':Nat->Prop) (μ M:Nat->Loc) (H:List (Blk E)) (x:Option Nat) (B:Blk E):Prop:=match x with
 | some id=>xX w A' U' M (μ id) B/\xG B=true/\xG (zn H id)=true/\(xu B=true->xu (zn H id)=true)/\(ZY B=true->ZY (zn H id)=true) /\
   (ZY B=true->xu B=false->xu (zn H id)=false)
 | none=>∃wr e,B= .row wr e []
theorem xX.rowLess {A:Nat->Prop}{U:Nat->Prop}{l:Loc}{wr:Bool}{e:Ty}{xs:List (Den E.T e)}(h:xX w A U μ l (.row wr e xs)) (hA:∀b,A' b->A b):xX w A' U' M l (.row wr e xs):=by
 rcases h with ⟨b,off,cap,c,vs,hl,hbox,h1,h2,h3,h4⟩ | h
 .exact .inl ⟨b,off,cap,c,vs,hl,hbox,h1,h2,h3,fun i hi=>(h4 i hi).less hA⟩
 .exact .inr h
theorem zev (τ:Ty) (x:Den E.T τ):vC (E:=E) τ τ x=some x:=by simp [vC]
theorem znd {R:zj E->Value->Prop}:∀ {ks:List Int}{es:List (zj E×zj E)}{ms:List MapEntry},zgu ks es=true->MR R es ms->∀ {ps:List (zj E)},RL R ps (ms.map (·.val))->(∀k v,R (.v (.int .i64) k) v->v= .int .i64 k) ->
  ∀ {R':zj E->Value->Prop},(∀k,R' (.v (.int .i64) k) (.int .i64 k))->∀ {qs:List (zj E)},RL R' qs (ms.map (·.val))->MR R' ((ks.map fun k=>zj.v (.int .i64) k).zip qs) ms
 | [],[],ms,h,hm,ps,hp,hk,R',hk',qs,hq=>by
  have:ms=[]:=zB7 (by have:=hm.1;simpa using this.symm);subst this;exact MR.nil
 | [],_::_,_,h,_,_,_,_,_,_,_,_=>by simp [zgu] at h
 | k::ks,[],_,h,_,_,_,_,_,_,_,_=>by simp [zgu] at h
 | k::ks,(a,b)::es,ms,h,hm,ps,hp,hk,R',hk',qs,hq=>by
  obtain ⟨m,ms',rfl,h1,h2,h3⟩:=hm.head;unfold zgu at h;split at h
  .rename_i he;cases he
  .rename_i k2 ks2 n x es2 e1 e2;injection e1 with e1 e1';injection e2 with e2 e2';injection e2 with e2 e3;subst e1 e1' e2' e2 e3;simp only [zBl,decide_eq_true_eq] at h;obtain ⟨rfl,h⟩:=h;cases qs with
   | nil=>have:=hq.1;simp at this
   | cons q qs =>
    cases ps with
    | nil=>have:=hp.1;simp at this
    | cons p ps =>
     have hq0:=hq.2 0 q m.val rfl rfl;have tl:∀ {R:zj E->Value->Prop}{a:zj E}{as:List (zj E)},RL R (a::as) ((m::ms').map (·.val))->RL R as (ms'.map (·.val)):=fun h=>⟨by have:=h.1;simpa using this,fun j p u hp hu=>h.2 (j+1) p u (by simpa using hp) (by simpa using hu)⟩
     exact MR.cons (by rw [hk _ _ h1];exact hk' _) hq0 (znd h h3 (tl hp) hk hk' (tl hq))
  .cases h
def BK.isGone:BK->Bool | .gone=>true | _=>false
theorem XJ (S:z9 A0 μ H w) (hA:∀b,A' b->Av A0 μ H b):∀(bs:List BK) (j:Nat) (s s':Ren×List (zj E)),v9 H bs j s=some s' ->
  ∃new,s'.2=s.2++new/\new.length=(BK.holesL bs).length/\s.1.le s'.1/\∀qs,HC H (zgt μ A') (BK.holesL bs) new qs->MOk U' μ M N s'.1 ->
   (yF N bs qs).length=bs.length/\∀(i:Nat) (b:BK),bs[i]? =some b->if b.isGone then zn (yF N bs qs) i= .free else ∃x,s'.1.get (j+i)=some x/\BC w A' U' μ M H x (zn (yF N bs qs) i)
 | [],j,s,s',h=>by
  simp only [v9,Option.some.injEq] at h;subst h;refine ⟨[],by simp,rfl,Ren.le_refl _,fun qs hc hm=>⟨by simp [yF],fun i b hi=>by simp at hi⟩⟩
 | .gone::bs,j,s,s',h=>by
  simp only [v9] at h;obtain ⟨n2,b1,b2,b3,b4⟩:=XJ S hA bs (j+1) s s' h;refine ⟨n2,b1,by simpa [BK.holesL,BK.holes] using b2,b3,fun qs hc hm=>?_⟩;obtain ⟨t1,t2⟩:=b4 qs (by simpa [BK.holesL,BK.holes] using hc) hm;have e:yF N (.gone::bs) qs= .free::yF N bs qs:=by simp only [yF,wS]
  rw [e];refine ⟨by simp [t1],fun i b hi=>?_⟩;cases i with
  | zero =>
   have:b= .gone:=by simpa using hi.symm
   subst this;rfl
  | succ i =>
   have:=t2 i b (by simpa using hi);rw [show j+(i+1)=j+1+i by omega];exact this
 | .box wr ks::bs,j,s,s',h=>by
  simp only [v9] at h;split at h
  .rename_i id hg;split at h
   .rename_i wr' cs e2 hB;cases e2;split at h;rotate_left
    .cases h
    rename_i hc0;simp only [zBl,zCx,zBC] at hc0;obtain ⟨hw,hsol⟩:=hc0;split at h;rotate_left
    .cases h
    rename_i s1 h1;have ok:=S.ok id;rw [hB] at ok;obtain ⟨b,len,cap,c,hl,hbox,hsz,hcells⟩:=ok;obtain ⟨n1,a1,a2,a3,a4⟩:=Vw (A':=A') (U':=U') (M:=M) (N:=N) S hA ks cs c.toList s s1 h1 (RL.of_idx hsz (fun j hj=>(hcells j hj).1));obtain ⟨n2,b1,b2,b3,b4⟩:=XJ S hA bs (j+1) s1 s' h;refine ⟨n1++n2,by rw [b1,a1,zBu],by simp [BK.holesL,BK.holes,a2,b2],a3.trans b3,fun qs hc hm=>?_⟩;obtain ⟨q1,q2,rfl,c1,c2⟩:=HC.split a2 hc;obtain ⟨r1,r2,r3⟩:=a4 q1 q2 c1 (hm.of_le b3);obtain ⟨t1,t2⟩:=b4 q2 c2 hm;have e:yF N (.box wr ks::bs) (q1++q2)= .box wr (yC N ks (q1++q2)).1::yF N bs q2:=by
     simp only [yF,wS,r2]
    rw [e];refine ⟨by simp [t1],fun i b hi=>?_⟩;cases i with
    | zero =>
     simp only [zCv,Option.some.injEq] at hi;subst hi;refine ⟨some id,b3 _ _ (a3 _ _ hg),?_⟩;show BC w A' U' μ M H (some id) (.box wr (yC N ks (q1++q2)).1);refine ⟨⟨b,len,cap,c,hl,?_,by have:=r1.1;simpa using this.symm,fun j hj=>⟨r1.idx.2 j hj,r3 hsol _ (zBU hj)⟩⟩,rfl,by rw [hB];rfl,?_,?_,?_⟩
     .obtain ⟨t,f,g1,g2⟩:=hbox;exact ⟨t,f,g1,fun hwr=>g2 (hw.resolve_left (by simp [hwr]))⟩
     .intro hlv;rw [hB];exact hw.resolve_left (by simpa [xu] using hlv)
     .intro hlv;rw [hB];exact hw.resolve_left (by simpa [ZY] using hlv)
     .intro h1 h2;simp [ZY,xu] at h1 h2;rw [h1] at h2;cases h2
    | succ i =>
     have:=t2 i b (by simpa using hi);rw [show j+(i+1)=j+1+i by omega];exact this
   .rename_i e2 _;cases e2
   .rename_i e2 _;cases e2
   .cases h
  .cases h
  .cases h
 | .map ek::bs,j,s,s',h=>by
  simp only [v9] at h;split at h
  .rename_i id hg;split at h
   .rename_i e2 _;cases e2
   .rename_i e2 _;cases e2
   .rename_i wr' es e2 hB;cases e2;split at h;rotate_left
    .cases h
    rename_i hkeys;split at h;rotate_left
    .cases h
    rename_i s1 h1;have ok:=S.ok id;rw [hB] at ok;obtain ⟨b,ms,clock,hl,hheap,hsz,hcells⟩:=ok;have hMR:=MR.of_blk hsz hcells;have hvals:RL (Rp E A0 μ H w) (es.map (·.2)) (ms.toList.map (·.val)):=⟨by simp [hsz],fun i p v hp hv=>by
     simp only [zBQ,zBD] at hp hv;obtain ⟨a,ha,rfl⟩:=hp;obtain ⟨m,hm,rfl⟩:=hv;exact (hMR.2 i a m ha hm).2⟩
    obtain ⟨n1,a1,a2,a3,a4⟩:=Vw (A':=A') (U':=U') (M:=M) (N:=N) S hA (ek.map (·.2)) _ _ s s1 h1 hvals;obtain ⟨n2,b1,b2,b3,b4⟩:=XJ S hA bs (j+1) s1 s' h;refine ⟨n1++n2,by rw [b1,a1,zBu],by simp [BK.holesL,BK.holes,a2,b2],a3.trans b3,fun qs hc hm=>?_⟩;obtain ⟨q1,q2,rfl,c1,c2⟩:=HC.split a2 (by simpa [BK.holesL,BK.holes] using hc);obtain ⟨r1,r2,r3⟩:=a4 q1 q2 c1 (hm.of_le b3);obtain ⟨t1,t2⟩:=b4 q2 c2 hm;have e:yF N (.map ek::bs) (q1++q2)= .map false (((ek.map (·.1)).map fun k=>zj.v (.int .i64) k).zip (yC N (ek.map (·.2)) (q1++q2)).1)::yF N bs q2:=by
     simp only [yF,wS,r2]
    rw [e];refine ⟨by simp [t1],fun i b hi=>?_⟩;cases i with
    | zero =>
     simp only [zCv,Option.some.injEq] at hi;subst hi;refine ⟨some id,b3 _ _ (a3 _ _ hg),?_⟩;show BC w A' U' μ M H (some id) (.map false (((ek.map (·.1)).map fun k=>zj.v (.int .i64) k).zip (yC N (ek.map (·.2)) (q1++q2)).1));have hm2:=znd hkeys hMR hvals (fun k v h=>zgr h) (R':=yc E w A' U' M) (fun k=>zmA k) r1;exact ⟨⟨b,ms,clock,hl,hheap,hm2.to_blk.1,hm2.to_blk.2⟩,rfl,by rw [hB];rfl,fun h=>Bool.noConfusion h,fun h=>Bool.noConfusion h,fun h=>Bool.noConfusion h⟩
    | succ i =>
     have:=t2 i b (by simpa using hi);rw [show j+(i+1)=j+1+i by omega];exact this
   .cases h
  .cases h
  .cases h
 | .row wr e::bs,j,s,s',h=>by
  simp only [v9] at h;split at h
  .rename_i id hg;split at h
   .rename_i e2 _;cases e2
   .rename_i wr' e' l e2 hB;cases e2;split at h;rotate_left
    .cases h
    rename_i hw;have hw:wr=wr':=by simpa using hw
    subst hw;split at h;rotate_left
    .cases h
    rename_i l' hl';obtain ⟨he,hl'⟩:=wz hl';cases he;have hl':l=l':=hl';subst hl';have ok:=S.ok id;rw [hB] at ok;obtain ⟨n2,b1,b2,b3,b4⟩:=XJ S hA bs (j+1) _ s' h;refine ⟨.v (.slice e) l::n2,by rw [b1,zBu];rfl,by simp [BK.holesL,BK.holes,b2],b3,fun qs hc hm=>?_⟩
    match qs,hc with
    | q::qs,hc =>
     obtain ⟨⟨x,ids,rfl,hx,hgd⟩,hc⟩:=hc;obtain ⟨t1,t2⟩:=b4 qs hc hm;have hx2:l=x:=by
      simp only [toT,vz,zev,zBk,Option.some.injEq,Prod.mk.injEq] at hx;exact hx.1
     subst hx2;have e:yF N (.row wr e::bs) (.v (.slice e) l::qs)= .row wr e l::yF N bs qs:=by
      simp only [yF,wS,zev]
     rw [e];refine ⟨by simp [t1],fun i b hi=>?_⟩;cases i with
     | zero =>
      simp only [zCv,Option.some.injEq] at hi;subst hi;refine ⟨some id,b3 _ _ hg,?_⟩;exact ⟨ok.rowLess hA,rfl,by rw [hB];rfl,fun h=>by rw [hB];exact h,fun _=>by rw [hB];rfl,fun _ h=>by rw [hB];exact h⟩
     | succ i =>
      have:=t2 i b (by simpa using hi);rw [show j+(i+1)=j+1+i by omega];exact this
   .rename_i e2 _;cases e2
   .cases h
  .rename_i hg;obtain ⟨n2,b1,b2,b3,b4⟩:=XJ S hA bs (j+1) _ s' h;refine ⟨.v (.slice e) []::n2,by rw [b1,zBu];rfl,by simp [BK.holesL,BK.holes,b2],b3,fun qs hc hm=>?_⟩
   match qs,hc with
   | q::qs,hc =>
    obtain ⟨⟨x,ids,rfl,hx,hgd⟩,hc⟩:=hc;obtain ⟨t1,t2⟩:=b4 qs hc hm;have hx2:[]=x:=by
     simp only [toT,vz,zev,zBk,Option.some.injEq,Prod.mk.injEq] at hx;exact hx.1
    subst hx2;have e:yF N (.row wr e::bs) (.v (.slice e) []::qs)= .row wr e []::yF N bs qs:=by
     simp only [yF,wS,zev]
    rw [e];refine ⟨by simp [t1],fun i b hi=>?_⟩;cases i with
    | zero =>
     simp only [zCv,Option.some.injEq] at hi;subst hi;exact ⟨none,b3 _ _ hg,wr,_,rfl⟩
    | succ i =>
     have:=t2 i b (by simpa using hi);rw [show j+(i+1)=j+1+i by omega];exact this
  .cases h
end
end Go.Pe
namespace Go.Pe
variable {E:yG}
theorem Ren.get_ids {ρ:Ren}{j id:Nat}(h:ρ.get j=some (some id)):id∈ρ.ids:=by
 induction ρ with
 | nil=>simp [Ren.get] at h
 | cons a ρ ih =>
  obtain ⟨i,x⟩:=a;simp only [Ren.get] at h;split at h
  .injection h with h;subst h;simp [Ren.ids]
  .have:=ih h;cases x<;>simp [Ren.ids,this]
theorem zue {a:Nat}{l:List Nat}(h:zg8 (a::l)=true):a∉l/\zg8 l=true:=by
 simp only [zg8,zBl,zBC] at h;refine ⟨fun hm=>?_,h.2⟩;have:=List.any_eq_false.1 h.1 a hm;simp at this
theorem Ren.get_inj {ρ:Ren}(hn:zg8 ρ.ids=true) {i j id:Nat}(hi:ρ.get i=some (some id)) (hj:ρ.get j=some (some id)):i=j:=by
 induction ρ with
 | nil=>simp [Ren.get] at hi
 | cons a ρ ih =>
  obtain ⟨k,x⟩:=a;simp only [Ren.get] at hi hj;cases x with
  | none =>
   split at hi
   .cases hi
   .split at hj
    .cases hj
    .exact ih hn hi hj
  | some y =>
   obtain ⟨h1,h2⟩:=zue (by simpa [Ren.ids] using hn);split at hi
   .rename_i hk;have hk:=zBs hk;injection hi with hi;injection hi with hi;subst hi;split at hj
    .rename_i hk2;have hk2:=zBs hk2;exact hk.symm.trans hk2
    .exact zk (Ren.get_ids hj) h1
   .split at hj
    .injection hj with hj;injection hj with hj;subst hj;exact zk (Ren.get_ids hi) h1
    .exact ih h2 hi hj
theorem Ren.get_under {ρ:Ren}{bs:List BK}(h:ρ.under bs=true) {j:Nat}{x:Option Nat}(hg:ρ.get j=some x):∃b,bs[j]? =some b/\b.isGone=false:=by
 induction ρ with
 | nil=>simp [Ren.get] at hg
 | cons a ρ ih =>
  obtain ⟨k,y⟩:=a;simp only [Ren.under,List.all_cons,zBl] at h;simp only [Ren.get] at hg;split at hg
  .rename_i hk;have hk:=zBs hk;subst hk;have h1:=h.1;split at h1
   .cases h1
   .rename_i b hb hn;refine ⟨_,hn,?_⟩;cases b with
    | gone=>simp_all
    | _=>rfl
   .cases h1
  .exact ih h.2 hg
theorem ziu {a b:List Nat}(h:zjp a b=true) {x y:Nat}(hx:x∈a) (hy:y∈b):x≠y:=by
 rintro rfl;have:=zBL.1 h x hx;simp only [zBC] at this;have:=List.any_eq_false.1 this x hy;simp at this
section
variable {A0:Nat->Prop}{μ:Nat->Loc}{H:List (Blk E)}{w:World}
theorem zot {τ:Ty}{p:zj E}{y:Den E.T τ}{ids:List Nat}(h:vz τ p H=some (y,ids)):∀id∈ids,∃wr e l,zn H id= .row wr e l:=by
 unfold vz at h;split at h
 .simp only [zBw] at h;obtain ⟨z,_,he⟩:=h;simp at he;obtain ⟨_,rfl⟩:=he;simp
 .split at h
  .simp at h;obtain ⟨_,rfl⟩:=h;simp
  .cases h
 .split at h
  .split at h
   .rename_i hB;simp only [zBw] at h;obtain ⟨z,_,he⟩:=h;simp at he;obtain ⟨_,rfl⟩:=he;intro id hid;rw [zCb.1 hid];exact ⟨_,_,_,hB⟩
   .cases h
  .cases h
 .split at h
  .simp only [zBw] at h;obtain ⟨z,_,he⟩:=h;simp at he;obtain ⟨_,rfl⟩:=he;simp
  .cases h
 .cases h
theorem zlw:∀ {ts:List Ty}{ps:List (zj E)}{x:HL E.T ts}{ids:List Nat},wV ts ps H=some (x,ids)->∀id∈ids,∃wr e l,zn H id= .row wr e l
 | [],[],x,ids,h=>by simp [wV] at h;subst h;simp
 | [],_::_,_,_,h=>by simp [wV] at h
 | _::_,[],_,_,h=>by simp [wV] at h
 | t::ts,p::ps,x,ids,h=>by
  simp only [wV,zBw] at h;obtain ⟨⟨a1,a2⟩,ha,⟨b1,b2⟩,hb,he⟩:=h;simp at he;obtain ⟨rfl,rfl⟩:=he;intro id hid;rcases zBE.1 hid with hid | hid
  .exact zot ha id hid
  .exact zlw hb id hid
theorem zzi {τ:Ty}{p:zj E}{y:Den E.T τ}{ids:List Nat}(h:toT τ p H=some (y,ids)):∀id∈ids,∃wr e l,zn H id= .row wr e l:=by
 unfold toT at h;split at h
 .simp only [zBw] at h;obtain ⟨⟨x,ids'⟩,hx,he⟩:=h;simp at he;obtain ⟨_,rfl⟩:=he;exact zlw hx
 .exact zot h
theorem zsr:∀ {ts:List Ty}{ps:List (zj E)}{x:HL E.T ts}{ids:List Nat},X1 ts ps H=some (x,ids)->∀id∈ids,∃wr e l,zn H id= .row wr e l
 | [],[],x,ids,h=>by simp [X1] at h;subst h;simp
 | [],_::_,_,_,h=>by simp [X1] at h
 | _::_,[],_,_,h=>by simp [X1] at h
 | t::ts,p::ps,x,ids,h=>by
  simp only [X1,zBw] at h;obtain ⟨⟨a1,a2⟩,ha,⟨b1,b2⟩,hb,he⟩:=h;simp at he;obtain ⟨rfl,rfl⟩:=he;intro id hid;rcases zBE.1 hid with hid | hid
  .exact zzi ha id hid
  .exact zsr hb id hid
def Ren.loc (ρ:Ren) (μ:Nat->Loc) (j:Nat):Loc:=match ρ.get j with | some (some id)=>μ id | _=>.none none
structure zqs (E:yG) (A0:Nat->Prop) (μ:Nat->Loc) (H:List (Blk E)) (w:World) (Sh:wn) (x:HL E.T Sh.holes) (ρ:Ren) (fz:List Nat) (vs:List Value) (Ac:Nat->Prop):Prop where
 sim:z9 Ac (ρ.loc μ) (yL id Sh (HL.toP Sh.holes x)).2 w
 rep:RL (Rp E Ac (ρ.loc μ) (yL id Sh (HL.toP Sh.holes x)).2 w) (yL id Sh (HL.toP Sh.holes x)).1 vs
 len:(yL id Sh (HL.toP Sh.holes x)).2.length=Sh.blks.length
 up:∀b,A0 b->Ac b
 down:∀b,Ac b->A0 b\/Lv μ H b
 lv:∀b,Lv (ρ.loc μ) (yL id Sh (HL.toP Sh.holes x)).2 b->Lv μ H b
 rest:∀b,Lv μ H b->(∀id∈fz,∀o n c,μ id≠ .blk b o n c)->Ac b\/Lv (ρ.loc μ) (yL id Sh (HL.toP Sh.holes x)).2 b
 bc:∀(j:Nat) (b:BK),Sh.blks[j]? =some b->if b.isGone then zn (yL id Sh (HL.toP Sh.holes x)).2 j= .free else ∃y,ρ.get j=some y/\BC w (Av Ac (ρ.loc μ) (yL id Sh (HL.toP Sh.holes x)).2) (Us (yL id Sh (HL.toP Sh.holes x)).2) μ (ρ.loc μ) H y (zn (yL id Sh (HL.toP Sh.holes x)).2 j)
 under:∀j y,ρ.get j=some y->∃b,Sh.blks[j]? =some b/\b.isGone=false
 inj:∀i j id,ρ.get i=some (some id)->ρ.get j=some (some id)->i=j
 apart:∀j id,ρ.get j=some (some id)->id∉fz
 rows:∀id∈fz,∃wr e l,zn H id= .row wr e l
theorem zuu {H:List (Blk E)}{j:Nat}(h:H.length<=j):zn H j= .free:=by
 unfold zn;rw [zCj h];rfl
theorem zzh (S:z9 A0 μ H w) {Sh:wn}{ps:List (zj E)}{vs:List Value}(hr:RL (Rp E A0 μ H w) ps vs) {ρ0:Ren}{s s':Ren×List (zj E)}{x:HL E.T Sh.holes}{fz:List Nat}
  (h1:Zt Sh.vals ps (ρ0,[])=some s) (h2:v9 H Sh.blks 0 s=some s') (h3:X1 Sh.holes s'.2 H=some (x,fz)) (hu:s'.1.under Sh.blks=true) (hn:zg8 s'.1.ids=true) (ha:zjp s'.1.ids fz=true) :
  (∃Ac,zqs E A0 μ H w Sh x s'.1 fz vs Ac)/\ρ0.le s'.1:=by
 let Hc:=(yL id Sh (HL.toP Sh.holes x)).2;let M:=s'.1.loc μ;have rows:=zsr h3;have key:∀(A' U':Nat->Prop),(∀b,A' b->Av A0 μ H b)->zgt μ A' fz->(∀j y,s'.1.get j=some y->U' j) ->
   RL (yc E w A' U' M) (yL id Sh (HL.toP Sh.holes x)).1 vs/\Hc.length=Sh.blks.length/\(∀(j:Nat) (b:BK),Sh.blks[j]? =some b->if b.isGone then zn Hc j= .free else ∃y,s'.1.get j=some y/\BC w A' U' μ M H y (zn Hc j))/\ρ0.le s'.1:=by
  intro A' U' hA hg hU;obtain ⟨n1,a1,a2,a3,a4⟩:=Vw (A':=A') (U':=U') (M:=M) (N:=id) S hA _ _ _ _ _ h1 hr;obtain ⟨n2,b1,b2,b3,b4⟩:=XJ (A':=A') (U':=U') (M:=M) (N:=id) S hA _ _ _ _ h2;have hacc:s'.2=n1++n2:=by rw [b1,a1];simp
  have hc:=zuG (G:=zgt μ A') (fun l hl id hid=>hg id (hl id hid)) h3;rw [hacc] at hc;obtain ⟨q1,q2,hq,c1,c2⟩:=HC.split a2 hc;have hm:MOk U' μ M id s'.1:=fun j y hy=>by
   refine ⟨hU j y hy,?_⟩;cases y with
   | some i=>show Ren.loc s'.1 μ j=μ i;simp only [Ren.loc,hy]
   | none=>exact ⟨none,by show Ren.loc s'.1 μ j=_;simp only [Ren.loc,hy]⟩
  obtain ⟨r1,r2,r3⟩:=a4 q1 q2 c1 (hm.of_le b3);obtain ⟨t1,t2⟩:=b4 q2 c2 hm;have e1:(yL id Sh (HL.toP Sh.holes x)).1=(yC id Sh.vals (q1++q2)).1:=by simp only [yL,hq]
  have e2:Hc=yF id Sh.blks q2:=by
   show (yL id Sh (HL.toP Sh.holes x)).2=_;simp only [yL,hq,r2]
  rw [e1,e2];exact ⟨r1,t1,fun j b hj=>by simpa using t2 j b hj,a3.trans b3⟩
 obtain ⟨_,hlen,flags0,hle⟩:=key (fun _=>False) (fun _=>True) (fun _ h=>h.elim) (fun _ _ _ _ _ _ _ h=>h) (fun _ _ _=>trivial);have flags:∀j,xY (zn Hc j)=true->∃y,s'.1.get j=some y/\BC w (fun _=>False) (fun _=>True) μ M H y (zn Hc j):=by
  intro j hj;have hlt:=wu hj;rw [hlen] at hlt;have:=flags0 j _ (zBn hlt);split at this
  .rw [this] at hj;cases hj
  .exact this
 have live:∀j b o n c,xu (zn Hc j)=true->M j= .blk b o n c->∃id,s'.1.get j=some (some id)/\μ id= .blk b o n c/\xu (zn H id)=true:=by
  intro j b o n c hl hM;obtain ⟨y,hy,hbc⟩:=flags j (yA (yN hl));cases y with
  | none =>
   have:M j= .none none:=by show Ren.loc s'.1 μ j=_;simp only [Ren.loc,hy]
   rw [this] at hM;cases hM
  | some id =>
   have:M j=μ id:=by show Ren.loc s'.1 μ j=_;simp only [Ren.loc,hy]
   exact ⟨id,hy,this.symm.trans hM,hbc.2.2.2.1 hl⟩
 have lv:∀b,Lv M Hc b->Lv μ H b:=by
  rintro b ⟨j,o,n,c,hl,hM⟩;obtain ⟨id,_,h5,h6⟩:=live j b o n c hl hM;exact ⟨id,o,n,c,h6,h5⟩
 let Ac:Nat->Prop:=fun b=>A0 b\/(Lv μ H b/\(¬ ∃id∈fz,∃o n c,μ id= .blk b o n c)/\¬Lv M Hc b);let A':Nat->Prop:=fun b=>(Ac b/\¬Kb b)\/Lv M Hc b;have hA:∀b,A' b->Av A0 μ H b:=by
  rintro b (⟨h | h,hk⟩ | h)
  .exact .inl ⟨h,hk⟩
  .exact .inr h.1
  .exact .inr (lv b h)
 have hg:zgt μ A' fz:=by
  intro id hid b o n c hμ;obtain ⟨wr,e,l,hB⟩:=rows id hid;have hout:=S.out id b o n c (by rw [hB];rfl) hμ;rintro (⟨h | h,_⟩ | ⟨j,o',n',c',hl,hM⟩)
  .exact hout.1 h
  .exact h.2.1 ⟨id,hid,o,n,c,hμ⟩
  .obtain ⟨id',h4,h5,h6⟩:=live j b o' n' c' hl hM;have hne:id'≠id:=ziu ha (Ren.get_ids h4) hid;exact S.inj id' id b o' n' c' b o n c hne h6 (by rw [hB];rfl) h5 hμ rfl
 have hU:∀j y,s'.1.get j=some y->Us Hc j:=by
  intro j y hy;obtain ⟨b,hb,hbg⟩:=Ren.get_under hu hy;have:=flags0 j b hb;rw [zd (by simp [hbg])] at this;obtain ⟨y',hy',hbc⟩:=this;refine yA ?_;cases y' with
  | some id=>exact hbc.2.1
  | none=>obtain ⟨wr,e,hB⟩:=hbc;show xG (zn Hc j)=true;rw [hB];rfl
 obtain ⟨hrep,_,hbc0,_⟩:=key A' (Us Hc) hA hg hU;have hbc:∀j,xY (zn Hc j)=true->∃y,s'.1.get j=some y/\BC w A' (Us Hc) μ M H y (zn Hc j):=by
  intro j hj;have hlt:=wu hj;rw [hlen] at hlt;have:=hbc0 j _ (zBn hlt);split at this
  .rw [this] at hj;cases hj
  .exact this
 refine ⟨⟨Ac,⟨⟨fun j=>?_,?_,?_⟩,hrep,hlen,fun b h=>.inl h,?_,lv,?_,hbc0,fun j y hy=>Ren.get_under hu hy,fun i j id hi hj=>Ren.get_inj hn hi hj,fun j id hj hf=>ziu ha (Ren.get_ids hj) hf rfl,rows⟩⟩,hle⟩
 .cases hj:xY (zn Hc j) with
  | true =>
   obtain ⟨y,hy,hb⟩:=hbc j hj;cases y with
   | some id =>
    have:M j=μ id:=by show Ren.loc s'.1 μ j=_;simp only [Ren.loc,hy]
    show xX w A' (Us Hc) M (M j) (zn Hc j);rw [this];exact hb.1
   | none =>
    obtain ⟨wr,e,hB⟩:=hb;have:M j= .none none:=by show Ren.loc s'.1 μ j=_;simp only [Ren.loc,hy]
    show xX w A' (Us Hc) M (M j) (zn Hc j);rw [hB,this];exact .inr ⟨rfl,none,rfl⟩
  | false =>
   show xX w A' (Us Hc) M (M j) (zn Hc j);cases hB:zn Hc j with
   | free=>trivial
   | dead=>trivial
   | _=>rw [hB] at hj;cases hj
 .intro i j b o n c b' o' n' c' hne hli hmj hi hj;obtain ⟨id,g1,g2,g3⟩:=live i b o n c hli hi;obtain ⟨y,hy,hb⟩:=hbc j (yA hmj);cases y with
  | none =>
   have:M j= .none none:=by show Ren.loc s'.1 μ j=_;simp only [Ren.loc,hy]
   have hj:M j= .blk b' o' n' c':=hj;rw [this] at hj;cases hj
  | some id' =>
   have:M j=μ id':=by show Ren.loc s'.1 μ j=_;simp only [Ren.loc,hy]
   have hj:M j= .blk b' o' n' c':=hj;refine S.inj id id' b o n c b' o' n' c' (fun e=>?_) g3 hb.2.2.1 g2 (this.symm.trans hj);subst e;exact hne (Ren.get_inj hn g1 hy)
 .intro j b o n c hown hM;obtain ⟨y,hy,hb⟩:=hbc j (yA (zeC hown));have hM:M j= .blk b o n c:=hM;cases y with
  | none =>
   have:M j= .none none:=by show Ren.loc s'.1 μ j=_;simp only [Ren.loc,hy]
   rw [this] at hM;cases hM
  | some id =>
   have e:M j=μ id:=by show Ren.loc s'.1 μ j=_;simp only [Ren.loc,hy]
   have hμ:μ id= .blk b o n c:=e.symm.trans hM;have ho:=S.out id b o n c (hb.2.2.2.2.1 hown) hμ;refine ⟨?_,ho.2⟩;rintro (h | ⟨hlv,_,hnl⟩)
   .exact ho.1 h
   .cases hl:xu (zn Hc j) with
    | true=>exact hnl ⟨j,o,n,c,hl,hM⟩
    | false =>
     obtain ⟨k,o',n',c',k1,k2⟩:=hlv;have hnl':=hb.2.2.2.2.2 hown hl;have hne:k≠id:=fun e=>by subst e;rw [k1] at hnl';cases hnl'
     exact S.inj k id b o' n' c' b o n c hne k1 hb.2.2.1 k2 hμ rfl
 .rintro b (h | h)
  .exact .inl h
  .exact .inr h.1
 .intro b hb hf;by_cases hl:Lv M Hc b
  .exact .inr hl
  .exact .inl (.inr ⟨hb,fun ⟨id,h4,o,n,c,h5⟩=>hf id h4 o n c h5,hl⟩)
theorem UJ (S:z9 A0 μ H w) {Sh:wn}{ps:List (zj E)}{vs:List Value}(hr:RL (Rp E A0 μ H w) ps vs) {x:HL E.T Sh.holes}{ρ0 ρ:Ren}{fz:List Nat}
  (h:Wc ρ0 Sh ps H=some (x,ρ,fz)):(∃Ac,zqs E A0 μ H w Sh x ρ fz vs Ac)/\ρ0.le ρ:=by
 unfold Wc at h;split at h;rotate_left
 .cases h
 rename_i s h1;split at h;rotate_left
 .cases h
 rename_i s' h2;split at h;rotate_left
 .cases h
 rename_i x' h3;split at h;rotate_left
 .cases h
 rename_i hc;simp only [zBl] at hc;simp only [Option.some.injEq,Prod.mk.injEq] at h;obtain ⟨rfl,rfl,rfl⟩:=h;exact zzh S hr h1 h2 h3 hc.1.1 hc.1.2 hc.2
end
end Go.Pe
namespace Go.Pe
variable {E:yG}
section
variable {w:World}{A U A'' U'':Nat->Prop}{M M'':Nat->Loc}{N:Nat->Nat}
def ZC (q:zj E):Prop:=∃t x,q= .v t x
mutual
theorem zwt (hN:∀j,U j->U'' (N j)/\M'' (N j)=M j) (hA:∀b,A'' b->A b):∀(k:SK) (qs:List (zj E)) (v:Value),(∀q∈qs,ZC q)->yc E w A U M (xS id k qs).1 v ->
  yc E w A'' U'' M'' (xS N k qs).1 v/\(xS N k qs).2=(xS id k qs).2/\(∀q∈(xS N k qs).2,ZC q)/\(xS N k qs).1.leaf=(xS id k qs).1.leaf
 | .any,qs,v,ht,h=>⟨.any v,rfl,ht,rfl⟩
 | .val τ,[],v,ht,h=>⟨.any v,rfl,ht,rfl⟩
 | .val τ,q::qs,v,ht,h=>by
  obtain ⟨t,x,rfl⟩:=ht q (zBx ..);refine ⟨?_,rfl,fun q hq=>ht q (zBr _ hq),rfl⟩;cases h with
  | v _ _ _ h=>exact .v _ _ _ (h.less hA)
 | .full e,[],v,ht,h=>⟨.any v,rfl,ht,rfl⟩
 | .full e,q::qs,v,ht,h=>by
  refine ⟨?_,rfl,fun q' hq=>ht q' (zBr _ hq),rfl⟩;have h:yc E w A U M (zml e q) v:=h;show yc E w A'' U'' M'' (zml e q) v;unfold zml at h ⊢;split
  .simp only at h;generalize vC (E:=E) (.slice _) (.slice e) _=o at h ⊢;cases o with
   | none=>exact .any v
   | some l2 =>
    cases h with
    | full _ _ a hr=>exact .full _ _ a (hr.less hA)
  .exact .any v
 | .aptr e j,qs,v,ht,h=>by
  cases h with
  | eptr _ _ i off b o len cap hU hμ hlt=>exact ⟨.eptr _ _ _ _ b o len cap (hN j hU).1 ((hN j hU).2.trans hμ) hlt,rfl,ht,rfl⟩
 | .ptr j,qs,v,ht,h=>by
  cases h with
  | ptr _ off b len cap hU hμ=>exact ⟨.ptr _ _ b len cap (hN j hU).1 ((hN j hU).2.trans hμ),rfl,ht,rfl⟩
 | .own j,qs,v,ht,h=>by
  cases h with
  | own _ b off len cap hU hμ=>exact ⟨.own _ b off len cap (hN j hU).1 ((hN j hU).2.trans hμ),rfl,ht,rfl⟩
  | own0 _ a a2 hU hμ=>exact ⟨.own0 _ a a2 (hN j hU).1 ((hN j hU).2.trans hμ),rfl,ht,rfl⟩
 | .bsl j n,qs,v,ht,h=>by
  cases h with
  | bsl _ _ b hU hμ=>exact ⟨.bsl _ _ b (hN j hU).1 ((hN j hU).2.trans hμ),rfl,ht,rfl⟩
 | .map j,qs,v,ht,h=>by
  cases h with
  | map _ b hU hμ=>exact ⟨.map _ b (hN j hU).1 ((hN j hU).2.trans hμ),rfl,ht,rfl⟩
 | .yld,[],v,ht,h=>⟨.any v,rfl,ht,rfl⟩
 | .yld,[q],v,ht,h=>⟨.any v,rfl,ht,rfl⟩
 | .yld,p::q::qs,v,ht,h=>by
  refine ⟨?_,rfl,fun q' hq=>ht q' (zBr _ (zBr _ hq)),rfl⟩;have h:yc E w A U M (zr5 p q) v:=h;show yc E w A'' U'' M'' (zr5 p q) v;unfold zr5 at h ⊢;split
  .cases h with
   | yld _ _=>exact .yld _ _
  .exact .any v
 | .nilfn,qs,v,ht,h=>by
  cases h with
  | nilfn=>exact ⟨.nilfn,rfl,ht,rfl⟩
 | .nils,qs,v,ht,h=>by
  cases h with
  | nils a=>exact ⟨.nils a,rfl,ht,rfl⟩
 | .fns fs,qs,v,ht,h=>⟨zuV h,rfl,ht,rfl⟩
 | .fn f ks,qs,v,ht,h=>by
  cases h with
  | fn _ _ cs hs hh =>
   obtain ⟨h1,h2,h3,_⟩:=zco hN hA ks qs cs.toList ht (RL.of_idx hs hh);exact ⟨.fn f _ cs h1.idx.1 h1.idx.2,h2,h3,rfl⟩
theorem zco (hN:∀j,U j->U'' (N j)/\M'' (N j)=M j) (hA:∀b,A'' b->A b):∀(ks:List SK) (qs:List (zj E)) (vs:List Value),(∀q∈qs,ZC q)->RL (yc E w A U M) (yC id ks qs).1 vs ->
  RL (yc E w A'' U'' M'') (yC N ks qs).1 vs/\(yC N ks qs).2=(yC id ks qs).2/\(∀q∈(yC N ks qs).2,ZC q) /\
   (yC N ks qs).1.map zj.leaf=(yC id ks qs).1.map zj.leaf
 | [],qs,vs,ht,h=>⟨⟨h.1,fun j p u hp=>by simp [yC] at hp⟩,rfl,ht,rfl⟩
 | k::ks,qs,[],ht,h=>by have:=h.1;simp [yC] at this
 | k::ks,qs,v::vs,ht,h=>by
  obtain ⟨h1,h2,h3,h4⟩:=zwt hN hA k qs v ht (h.2 0 _ v rfl rfl);have hr:RL (yc E w A U M) (yC id ks (xS id k qs).2).1 vs:=⟨by have:=h.1;simpa [yC] using this,fun j p u hp hu=>h.2 (j+1) p u (by simpa [yC] using hp) (by simpa using hu)⟩
  rw [<-h2] at hr;obtain ⟨g1,g2,g3,g4⟩:=zco hN hA ks (xS N k qs).2 vs h3 hr;refine ⟨RL.cons h1 g1,?_,g3,?_⟩
  .show (yC N ks (xS N k qs).2).2=(yC id ks (xS id k qs).2).2;rw [g2,h2]
  .show zj.leaf _::List.map _ (yC N ks (xS N k qs).2).1=zj.leaf _::List.map _ (yC id ks (xS id k qs).2).1;rw [h4,g4,h2]
end
theorem zaM:∀(ks:List SK) (qs:List (zj E)),(yC N ks qs).1.length=ks.length
 | [],_=>rfl
 | k::ks,qs=>by
  show (yC N ks (xS N k qs).2).1.length+1=_;rw [zaM ks];rfl
mutual
theorem zvw:∀(k:SK) (qs:List (zj E)),(xS N k qs).2=(xS id k qs).2
 | .any,_=>rfl
 | .val _,[]=>rfl
 | .val _,_::_=>rfl
 | .full _,[]=>rfl
 | .full _,_::_=>rfl
 | .aptr _ _,_=>rfl
 | .ptr _,_=>rfl
 | .own _,_=>rfl
 | .bsl _ _,_=>rfl
 | .nilfn,_=>rfl
 | .nils,_=>rfl
 | .fns _,_=>rfl
 | .map _,_=>rfl
 | .yld,[]=>rfl
 | .yld,[_]=>rfl
 | .yld,_::_::_=>rfl
 | .fn f ks,qs=>zbm ks qs
theorem zbm:∀(ks:List SK) (qs:List (zj E)),(yC N ks qs).2=(yC id ks qs).2
 | [],_=>rfl
 | k::ks,qs=>by
  show (yC N ks (xS N k qs).2).2=(yC id ks (xS id k qs).2).2;rw [zvw k,zbm ks]
end
theorem zwA (hN:∀j,U j->U'' (N j)/\M'' (N j)=M j) (hA:∀b,A'' b->A b) (l:Loc) (b:BK) (qs:List (zj E)) (ht:∀q∈qs,ZC q) (h:xX w A U M l (wS id b qs).1) :
  xX w A'' U'' M'' l (wS N b qs).1:=by
 cases b with
 | gone=>trivial
 | box wr ks =>
  obtain ⟨b,len,cap,c,hl,hbox,hsz,hc⟩:=h;obtain ⟨h1,_,_,h4⟩:=zco hN hA ks qs c.toList ht (RL.of_idx hsz (fun j hj=>(hc j hj).1));refine ⟨b,len,cap,c,hl,hbox,by have:=h1.1;simpa using this.symm,fun j hj=>⟨h1.idx.2 j hj,?_⟩⟩;have hj':j<(yC id ks qs).1.length:=by rw [zaM] at hj ⊢;exact hj
  have e:=congrArg (fun l=>l[j]?) h4;simp only [zBQ] at e;rw [zBn hj,zBn hj'] at e;simp only [zCC,Option.some.injEq] at e;show ((yC N ks qs).1[j]).leaf=true;rw [e];exact (hc j hj').2
 | map es =>
  obtain ⟨b,ms,clock,hl,hheap,hsz,hc⟩:=h;have hMR:=MR.of_blk hsz hc;have hlen:(yC id (es.map (·.2)) qs).1.length=es.length:=by rw [zaM];simp
  have hzl:(((es.map (·.1)).map fun k=>zj.v (E:=E) (.int .i64) k).zip (yC id (es.map (·.2)) qs).1).length=es.length:=by simp [hlen]
  have hvals:RL (yc E w A U M) (yC id (es.map (·.2)) qs).1 (ms.toList.map (·.val)):=⟨by rw [hlen];have:=hMR.1;rw [hzl] at this;simpa using this,fun i p v hp hv=>by
   simp only [zBQ,zBD] at hv;obtain ⟨m,hm,rfl⟩:=hv;have hi:i<es.length:=by have:=(zBt.1 hp).1;omega
   exact (hMR.2 i (.v (.int .i64) (es[i]).1,p) m (by simp [List.getElem?_zip_eq_some,hp,hi]) hm).2⟩
  obtain ⟨h1,_,_,_⟩:=zco hN hA (es.map (·.2)) qs _ ht hvals;have hfin:MR (yc E w A'' U'' M'') (((es.map (·.1)).map fun k=>zj.v (E:=E) (.int .i64) k).zip (yC N (es.map (·.2)) qs).1) ms.toList:=⟨by
   have:=hMR.1;rw [hzl] at this;simp [zaM];simpa using this,fun i p m hp hm=>by
   obtain ⟨hp1,hp2⟩:=List.getElem?_zip_eq_some.1 hp;have hi:i<es.length:=by have:=(zBt.1 hp1).1;simpa using this
   have hq:(yC id (es.map (·.2)) qs).1[i]? =some ((yC id (es.map (·.2)) qs).1[i]'(by omega)):=zBn _;have hk:=(hMR.2 i (.v (.int .i64) (es[i]).1,_) m (List.getElem?_zip_eq_some.2 ⟨by simp [hi],hq⟩) hm).1;refine ⟨?_,h1.2 i p.2 m.val hp2 (by simp [hm])⟩;have e1:p.1= .v (.int .i64) (es[i]).1:=by simp [hi] at hp1;exact hp1.symm
   rw [e1,zgr hk];exact zmA _⟩
  exact ⟨b,ms,clock,hl,hheap,hfin.to_blk.1,hfin.to_blk.2⟩
 | row wr e =>
  cases qs with
  | nil=>trivial
  | cons q qs =>
   simp only [wS] at h ⊢;split
   .split
    .simp_all;exact h.rowLess hA
    .trivial
   .trivial
theorem ziS (b:BK) (qs:List (zj E)):xu (wS N b qs).1=xu (wS id b qs).1/\xG (wS N b qs).1=xG (wS id b qs).1/\ZY (wS N b qs).1=ZY (wS id b qs).1/\xY (wS N b qs).1=xY (wS id b qs).1/\(wS N b qs).2=(wS id b qs).2:=by
 cases b with
 | gone=>exact ⟨rfl,rfl,rfl,rfl,rfl⟩
 | box wr ks=>exact ⟨rfl,rfl,rfl,rfl,zbm ks qs⟩
 | map es=>exact ⟨rfl,rfl,rfl,rfl,zbm (es.map fun (x:Int×SK)=>x.2) qs⟩
 | row wr e=>cases qs<;>exact ⟨rfl,rfl,rfl,rfl,rfl⟩
theorem zgm:∀(bs:List BK) (qs:List (zj E)),(yF N bs qs).length=bs.length
 | [],_=>rfl
 | b::bs,qs=>by
  show (yF N bs (wS N b qs).2).length+1=_;rw [zgm bs];rfl
theorem zm2 (k:SK):∀(qs:List (zj E)),(∀q∈qs,ZC q)->∀q∈(xS N k qs).2,ZC q:=by
 intro qs h;have key:(∀(k:SK) (qs:List (zj E)),(∀q∈qs,ZC q)->∀q∈(xS (E:=E) N k qs).2,ZC q):=by
  intro k;refine SK.rec (motive_1:=fun k=>∀(qs:List (zj E)),(∀q∈qs,ZC q)->∀q∈(xS (E:=E) N k qs).2,ZC q)
   (motive_2:=fun ks=>∀(qs:List (zj E)),(∀q∈qs,ZC q)->∀q∈(yC (E:=E) N ks qs).2,ZC q) ?_ ?_ ?_ ?_ ?_ ?_ ?_ ?_ ?_ ?_ ?_ ?_ ?_ ?_ ?_ k
  .exact fun qs h=>h
  .intro τ qs h;cases qs with
   | nil=>exact h
   | cons q qs=>exact fun q hq=>h q (zBr _ hq)
  .exact fun _ qs h=>h
  .exact fun _ qs h=>h
  .exact fun _ _ ih qs h=>ih qs h
  .exact fun _ _ qs h=>h
  .exact fun qs h=>h
  .exact fun qs h=>h
  .exact fun _ qs h=>h
  .exact fun _ qs h=>h
  .intro qs h
   match qs,h with
   | [],h=>exact h
   | [q],h=>exact h
   | _::_::r,h=>exact fun q hq=>h q (zBr _ (zBr _ hq))
  .intro e qs h;cases qs with
   | nil=>exact h
   | cons q qs=>exact fun q hq=>h q (zBr _ hq)
  .exact fun _ _ qs h=>h
  .exact fun qs h=>h
  .exact fun k ks h1 h2 qs h=>h2 _ (h1 qs h)
 exact key k qs h
theorem zcP:∀(ks:List SK) (qs:List (zj E)),(∀q∈qs,ZC q)->∀q∈(yC N ks qs).2,ZC q
 | [],qs,h=>h
 | k::ks,qs,h=>zcP ks _ (zm2 k qs h)
theorem ztX (b:BK) (qs:List (zj E)) (h:∀q∈qs,ZC q):∀q∈(wS N b qs).2,ZC q:=by
 cases b with
 | gone=>exact h
 | box wr ks=>exact zcP ks qs h
 | map es=>exact zcP (es.map (·.2)) qs h
 | row wr e =>
  cases qs with
  | nil=>exact h
  | cons q qs=>exact fun q hq=>h q (zBr _ hq)
theorem zpI (hN:∀j,U j->U'' (N j)/\M'' (N j)=M j) (hA:∀b,A'' b->A b):∀(bs:List BK) (qs:List (zj E)) (i:Nat) (l:Loc),(∀q∈qs,ZC q)->xX w A U M l (zn (yF id bs qs) i) ->
  xX w A'' U'' M'' l (zn (yF N bs qs) i)
 | [],qs,i,l,ht,h=>by simp [yF,zn];trivial
 | b::bs,qs,i,l,ht,h=>by
  cases i with
  | zero=>exact zwA hN hA l b qs ht h
  | succ i =>
   have h:xX w A U M l (zn (yF id bs (wS id b qs).2) i):=h;rw [<-(ziS (N:=N) b qs).2.2.2.2] at h;exact zpI hN hA bs _ i l (ztX b qs ht) h
theorem zlu:∀(bs:List BK) (qs:List (zj E)) (i:Nat),xu (zn (yF N bs qs) i)=xu (zn (yF id bs qs) i)/\xG (zn (yF N bs qs) i)=xG (zn (yF id bs qs) i) /\
  ZY (zn (yF N bs qs) i)=ZY (zn (yF id bs qs) i)/\xY (zn (yF N bs qs) i)=xY (zn (yF id bs qs) i)
 | [],qs,i=>⟨rfl,rfl,rfl,rfl⟩
 | b::bs,qs,i=>by
  cases i with
  | zero=>obtain ⟨h1,h2,h3,h4,_⟩:=ziS (N:=N) b qs;exact ⟨h1,h2,h3,h4⟩
  | succ i =>
   have h:=zlu bs (wS N b qs).2 i;have e:yF id (b::bs) qs=(wS id b qs).1::yF id bs (wS N b qs).2:=by rw [(ziS (N:=N) b qs).2.2.2.2];rfl
   rw [e];exact h
end
end Go.Pe
namespace Go.Pe
variable {E:yG}
section
variable {ρ:Ren}{fresh:Nat}
theorem zgd:∀(bs:List (Blk E)) (t:Nat) (H:List (Blk E)),(VB fresh bs t H).length=H.length
 | [],_,_=>rfl
 | b::bs,t,H=>by
  show (VB fresh bs (t+1) (H.set (fresh+t) b)).length=_;rw [zgd bs];simp
theorem zpg:∀(bs:List (Blk E)) (t:Nat) (H:List (Blk E)),(∀i,i<bs.length->fresh+t+i<H.length)->∀id,
  (∃i B,bs[i]? =some B/\id=fresh+t+i/\zn (VB fresh bs t H) id=B)\/(zn (VB fresh bs t H) id=zn H id/\∀i,i<bs.length->id≠fresh+t+i)
 | [],t,H,_,id=>.inr ⟨rfl,fun i hi=>by simp at hi⟩
 | b::bs,t,H,hl,id=>by
  have h0:=hl 0 (by simp);rcases zpg bs (t+1) (H.set (fresh+t) b) (fun i hi=>by have:=hl (i+1) (by simpa using hi);simp;omega) id with ⟨i,B,h1,h2,h3⟩ | ⟨h1,h2⟩
  .exact .inl ⟨i+1,B,by simpa using h1,by omega,h3⟩
  .by_cases he:id=fresh+t
   .refine .inl ⟨0,b,rfl,by omega,?_⟩;show zn (VB fresh bs (t+1) (H.set (fresh+t) b)) id=b;rw [h1,he,yr _ _ _ (by simpa using h0)]
   .refine .inr ⟨?_,fun i hi=>?_⟩
    .show zn (VB fresh bs (t+1) (H.set (fresh+t) b)) id=_;rw [h1,ya _ _ (fun e=>he e.symm)]
    .cases i with
     | zero=>omega
     | succ i=>have:=h2 i (by simpa using hi);omega
inductive Cls (ρ:Ren) (fresh:Nat) (ks os:List BK) (bs:List (Blk E)) (j:Nat) (H H':List (Blk E)) (id:Nat):Prop
 | box (i:Nat) (ws ws':List SK) (B:Blk E) (h1:ks[i]? =some (.box true ws)) (h2:os[i]? =some (.box true ws')) (h3:bs[i]? =some B) (h4:ρ.get (j+i)=some (some id)) (h5:zn H' id=B)
 | dead (i:Nat) (e:Ty) (h1:ks[i]? =some (.row true e)) (h4:ρ.get (j+i)=some (some id)) (h5:zn H' id= .dead)
 | new (t:Nat) (B:Blk E) (h3:bs[ks.length+t]? =some B) (h4:id=fresh+t) (h5:zn H' id=B)
 | same (h5:zn H' id=zn H id) (h1:∀(i:Nat) (b:BK),ks[i]? =some b->ρ.get (j+i)=some (some id)->(∃ws,b= .box false ws)\/(∃e,b= .row false e)\/∃es,b= .map es) (h2:∀t,ks.length+t<bs.length->id≠fresh+t)
theorem zm8:∀(ks os:List BK) (bs:List (Blk E)) (j:Nat) (H H':List (Blk E)),(∀i id,ρ.get i=some (some id)->id<H.length)->(∀t,ks.length+t<bs.length->fresh+t<H.length) ->
  (∀i id t,ρ.get i=some (some id)->ks.length+t<bs.length->id≠fresh+t)->(∀i k id,ρ.get i=some (some id)->ρ.get k=some (some id)->i=k) ->
  wE ρ fresh ks os bs j H=some H'->H'.length=H.length/\(∀id,Cls ρ fresh ks os bs j H H' id) /\
   ∀(i:Nat) (k:BK),ks[i]? =some k->(∃ws ws' id,k= .box true ws/\os[i]? =some (.box true ws')/\ρ.get (j+i)=some (some id))\/os[i]? =some .gone
 | [],os,bs,j,H,H',hl,hf,hne,hi,h=>by
  simp only [wE,Option.some.injEq] at h;subst h;refine ⟨zgd _ _ _,fun id=>?_,fun i k hk=>by simp at hk⟩;rcases zpg bs 0 H (fun i hi=>by have:=hf i (by simpa using hi);omega) id with ⟨i,B,h1,h2,h3⟩ | ⟨h1,h2⟩
  .exact .new i B (by simpa using h1) (by omega) h3
  .exact .same h1 (fun i b hb=>by simp at hb) (fun t ht=>by have:=h2 t (by simpa using ht);omega)
 | k::ks,os,bs,j,H,H',hl,hf,hne,hi,h=>by
  have step:∀(o:BK) (os':List BK) (b:Blk E) (bs':List (Blk E)) (H1:List (Blk E)),os=o::os'->bs=b::bs'->H1.length=H.length->wE ρ fresh ks os' bs' (j+1) H1=some H' ->
    ((∃ws ws' id,k= .box true ws/\o= .box true ws'/\ρ.get j=some (some id))\/o= .gone) ->
    (∀id,zn H1 id=zn H id/\(∀ws,k= .box true ws->ρ.get j≠some (some id))/\(∀e,k= .row true e->ρ.get j≠some (some id)) \/
     (∃ws ws',k= .box true ws/\o= .box true ws'/\ρ.get j=some (some id)/\zn H1 id=b)\/(∃e,k= .row true e/\ρ.get j=some (some id)/\zn H1 id= .dead))->(k≠ .gone) ->
    H'.length=H.length/\(∀id,Cls ρ fresh (k::ks) os bs j H H' id) /\
     ∀(i:Nat) (k':BK),(k::ks)[i]? =some k'->(∃ws ws' id,k'= .box true ws/\os[i]? =some (.box true ws')/\ρ.get (j+i)=some (some id))\/os[i]? =some .gone:=by
   intro o os' b bs' H1 eo eb hl1 hpb hok hch hkg;subst eo eb;obtain ⟨r1,r2,r3⟩:=zm8 ks os' bs' (j+1) H1 H' (fun i id hg=>by rw [hl1];exact hl i id hg) (fun t ht=>by rw [hl1];exact hf t (by simp at ht ⊢;omega))
    (fun i id t hg ht=>hne i id t hg (by simp at ht ⊢;omega)) hi hpb
   refine ⟨r1.trans hl1,fun id=>?_,fun i k' hk'=>?_⟩
   .cases r2 id with
    | box i ws ws' B h1 h2 h3 h4 h5=>exact .box (i+1) ws ws' B (by simpa using h1) (by simpa using h2) (by simpa using h3) (by rw [<-h4];congr 1;omega) h5
    | dead i e h1 h4 h5=>exact .dead (i+1) e (by simpa using h1) (by rw [<-h4];congr 1;omega) h5
    | new t B h3 h4 h5=>exact .new t B (by rw [<-h3];simp only [zBv];rw [show ks.length+1+t=ks.length+t+1 by omega,zCX]) h4 h5
    | same h5 h1 h2 =>
     rcases hch id with ⟨g1,g2,g3⟩ | ⟨ws,ws',g1,g2,g3,g4⟩ | ⟨e,g1,g2,g3⟩
     .refine .same (h5.trans g1) (fun i b' hb' hg=>?_) (fun t ht=>h2 t (by simp at ht ⊢;omega));cases i with
      | zero =>
       have hb':k=b':=by simpa using hb'
       subst hb';have hg:ρ.get j=some (some id):=by simpa using hg
       cases k with
       | box wr ws=>cases wr with
        | true=>exact zk hg (g2 ws rfl)
        | false=>exact .inl ⟨ws,rfl⟩
       | row wr e=>cases wr with
        | true=>exact zk hg (g3 e rfl)
        | false=>exact .inr (.inl ⟨e,rfl⟩)
       | map es=>exact .inr (.inr ⟨es,rfl⟩)
       | gone=>exact zk rfl hkg
      | succ i=>exact h1 i b' (by simpa using hb') (by rw [<-hg];congr 1;omega)
     .subst g1 g2;exact .box 0 ws ws' b rfl rfl rfl g3 (h5.trans g4)
     .subst g1;exact .dead 0 e rfl g2 (h5.trans g3)
   .cases i with
    | zero =>
     have hk':k=k':=by simpa using hk'
     subst hk';rcases hok with ⟨ws,ws',id,e1,e2,e3⟩ | e1
     .exact .inl ⟨ws,ws',id,e1,by simp [e2],by simpa using e3⟩
     .exact .inr (by simp [e1])
    | succ i =>
     rcases r3 i k' (by simpa using hk') with ⟨ws,ws',id,e1,e2,e3⟩ | e1
     .exact .inl ⟨ws,ws',id,e1,by simpa using e2,by rw [<-e3];congr 1;omega⟩
     .exact .inr (by simpa using e1)
  unfold wE at h;split at h
  .rename_i e;cases e
  .rename_i ws ks' ws' os' b bs' _ _ _ e;cases e;split at h
   .rename_i id0 hg;refine step _ _ _ _ _ rfl rfl (by simp) h (.inl ⟨_,_,id0,rfl,rfl,hg⟩) (fun id=>?_) (by simp);by_cases he:id=id0
    .subst he;exact .inr (.inl ⟨_,_,rfl,rfl,hg,yr _ _ _ (hl _ _ hg)⟩)
    .refine .inl ⟨ya _ _ (fun e=>he e.symm),fun _ _ hg'=>?_,fun _ e=>by cases e⟩;rw [hg] at hg';simp at hg';exact he hg'.symm
   .cases h
  .rename_i e;cases e;exact step _ _ _ _ _ rfl rfl rfl h (.inr rfl) (fun id=>.inl ⟨rfl,(fun _ e=>by cases e),(fun _ e=>by cases e)⟩) (by simp)
  .rename_i e;cases e;split at h
   .rename_i id0 hg;refine step _ _ _ _ _ rfl rfl (by simp) h (.inr rfl) (fun id=>?_) (by simp);by_cases he:id=id0
    .subst he;exact .inr (.inr ⟨_,rfl,hg,yr _ _ _ (hl _ _ hg)⟩)
    .refine .inl ⟨ya _ _ (fun e=>he e.symm),(fun _ e=>by cases e),fun _ _ hg'=>?_⟩;rw [hg] at hg';simp at hg';exact he hg'.symm
   .rename_i hg;exact step _ _ _ _ _ rfl rfl rfl h (.inr rfl) (fun id=>.inl ⟨rfl,(fun _ e=>by cases e),(fun _ _ hg'=>by rw [hg] at hg';simp at hg')⟩) (by simp)
   .cases h
  .rename_i e;cases e;exact step _ _ _ _ _ rfl rfl rfl h (.inr rfl) (fun id=>.inl ⟨rfl,(fun _ e=>by cases e),(fun _ e=>by cases e)⟩) (by simp)
  .rename_i e;cases e;exact step _ _ _ _ _ rfl rfl rfl h (.inr rfl) (fun id=>.inl ⟨rfl,(fun _ e=>by cases e),(fun _ e=>by cases e)⟩) (by simp)
  .cases h
end
end Go.Pe
namespace Go.Pe
variable {E:yG}
structure Adv (L:Nat->Prop) (w:World) (L':Nat->Prop) (w':World):Prop where
 os:w'.os=w.os
 tape:w'.tape=w.tape
 output:w'.output=w.output
 size:w.heap.size<=w'.heap.size
 block:∀b,b<w.heap.size->¬L b->w'.heap[b]? =w.heap[b]?
 lv:∀b,b<w.heap.size->L' b->L b
theorem Adv.refl (L:Nat->Prop) (w:World):Adv L w L w:=⟨rfl,rfl,rfl,zBm _,fun _ _ _=>rfl,fun _ _ h=>h⟩
theorem Adv.trans {L L1 L2:Nat->Prop}{w w1 w2:World}(h:Adv L w L1 w1) (k:Adv L1 w1 L2 w2):Adv L w L2 w2 :=
 ⟨k.os.trans h.os,k.tape.trans h.tape,k.output.trans h.output,zCf h.size k.size,
  fun b hb hl=>(k.block b (zBK hb h.size) (fun hl1=>hl (h.lv b hb hl1))).trans (h.block b hb hl),
  fun b hb hl=>h.lv b hb (k.lv b (zBK hb h.size) hl)⟩
theorem z3.adv {A0:Nat->Prop}{μ μ':Nat->Loc}{H H':List (Blk E)}{w w':World}(T:z3 A0 μ H w μ' H' w'):Adv (Lv μ H) w (Lv μ' H') w' :=
 ⟨T.os,T.tape,T.output,T.size,T.block,T.lv⟩
structure Wd (G:Nat->Prop) (W0:World) (A0:Nat->Prop) (w:World):Prop where
 low:∀b,A0 b->b<w.heap.size
 glob:∀g,G g->A0 g/\w.heap[g]? =W0.heap[g]?
 kb:∀b,Kb b->A0 b
def znQ:List Value->Value
 | [v]=>v
 | vs=>.tuple vs.toArray
structure zyS (A0:Nat->Prop) (μ:Nat->Loc) (Hi:List (Blk E)) (w:World) (s:zM E) (y:HL E.T s.out.holes) (vs:List Value) (A1:Nat->Prop) (μ1:Nat->Loc) (w':World):Prop where
 sim:z9 A1 μ1 (yL id s.out (HL.toP s.out.holes y)).2 w'
 rep:RL (Rp E A1 μ1 (yL id s.out (HL.toP s.out.holes y)).2 w') (yL id s.out (HL.toP s.out.holes y)).1 vs
 adv:Adv (Lv μ Hi) w (Lv μ1 (yL id s.out (HL.toP s.out.holes y)).2) w'
 up:∀b,A0 b->A1 b
 low:∀b,A1 b->b<w'.heap.size
 keep:∀(j:Nat) ws,s.inn.blks[j]? =some (.box true ws)->(∃ws',s.out.blks[j]? =some (.box true ws'))->μ1 j=μ j
def V0 (P:Program) (G:Nat->Prop) (W0:World) (f:FuncId) (s:zM E):Prop :=
 ∀(A0:Nat->Prop) (μ:Nat->Loc) (w:World) (args:Array Value) (x:HL E.T s.inn.holes) (y:s.go.G),Wd G W0 A0 w->z9 A0 μ (yL id s.inn (HL.toP s.inn.holes x)).2 w ->
  RL (Rp E A0 μ (yL id s.inn (HL.toP s.inn.holes x)).2 w) (yL id s.inn (HL.toP s.inn.holes x)).1 args.toList->s.F (s.gi.of x)=some y ->
  Calls P f args w fun e w'=>∃vs A1 μ1,e= .returned (znQ vs)/\zyS A0 μ (yL id s.inn (HL.toP s.inn.holes x)).2 w s (s.go.to y) vs A1 μ1 w'
section
variable {P:Program}{G:Nat->Prop}{W0:World}{A0:Nat->Prop}{μ:Nat->Loc}{H:List (Blk E)}{w:World}
theorem HL.toP_typed:∀(ts:List Ty) (x:HL E.T ts),∀q∈HL.toP (E:=E) ts x,ZC q
 | [],_=>fun q hq=>by simp [HL.toP] at hq
 | t::ts,x=>fun q hq=>by
  simp only [HL.toP,zBG] at hq;rcases hq with rfl | hq
  .exact ⟨t,x.1,rfl⟩
  .exact HL.toP_typed ts x.2 q hq
theorem zkw:∀(n fresh:Nat),Wb H fresh n=true->∀t,t<n->zn H (fresh+t)= .free/\fresh+t<H.length
 | 0,_,_,t,ht=>by omega
 | n+1,fresh,h,t,ht=>by
  simp only [Wb,zBl] at h;cases t with
  | zero =>
   have hle:fresh+1<=H.length:=zB0 h.1.2;refine ⟨?_,by omega⟩;have h1:=h.1.1;split at h1
   .rename_i e;simpa using e
   .cases h1
  | succ t =>
   have:=zkw n (fresh+1) h.2 t (by omega);rw [show fresh+(t+1)=fresh+1+t by omega];exact this
theorem zlh:∀(fz:List Nat) {H:List (Blk E)},z9 A0 μ H w->(∀id∈fz,∃wr e l,zn H id= .row wr e l) ->
  z3 A0 μ H w μ (upd H fz) w/\z9 A0 μ (upd H fz) w/\(∀id,id∉fz->zn (upd H fz) id=zn H id)/\(∀id∈fz,∃e l,zn (upd H fz) id= .row false e l)/\(upd H fz).length=H.length
 | [],H,S,_=>⟨z3.refl _ _ _ _,S,fun _ _=>rfl,fun _ h=>by simp at h,rfl⟩
 | id::r,H,S,h=>by
  obtain ⟨wr,e,l,hB⟩:=h id (zBx ..);obtain ⟨T,S',_⟩:=zaJ S hB;have hlt:id<H.length:=wu (by rw [hB];rfl);have e0:upd H (id::r)=upd (H.set id (.row false e l)) r:=by simp only [upd,hB,frz]
  have rows:∀j∈r,∃wr e' l',zn (H.set id (.row false e l)) j= .row wr e' l':=by
   intro j hj;rw [zao _ _ _ _ hlt];split
   .exact ⟨_,_,_,rfl⟩
   .exact h j (zBr _ hj)
  obtain ⟨T2,S2,h1,h2,h3⟩:=zlh r S' rows;rw [e0];refine ⟨T.trans T2,S2,fun j hj=>?_,fun j hj=>?_,by rw [h3];simp⟩
  .simp only [zBG,not_or] at hj;rw [h1 j hj.2,ya _ _ (fun e=>hj.1 e.symm)]
  .by_cases hr:j∈r
   .exact h2 j hr
   .have:j=id:=by rcases zBG.1 hj with h | h;exact h;exact zk h hr
    subst this;rw [h1 j hr,yr _ _ _ hlt];exact ⟨_,_,rfl⟩
theorem zw7 {s:zM E}{x:HL E.T s.inn.holes}{y:HL E.T s.out.holes}{ρ:Ren}{fz:List Nat}{vs0 vs:List Value}{Ac A1:Nat->Prop}{μ1:Nat->Loc}{w':World}{fresh:Nat}{H':List (Blk E)}
  (S:z9 A0 μ H w) (hlow:∀b,A0 b->b<w.heap.size) (hkb:∀b,Kb b->A0 b) (ab:zqs E A0 μ H w s.inn x ρ fz vs0 Ac) (oc:zyS Ac (ρ.loc μ) (yL id s.inn (HL.toP s.inn.holes x)).2 w s y vs A1 μ1 w')
  (hf:Wb H fresh (s.out.blks.length-s.inn.blks.length)=true) (ho:s.out.blks.all BK.handsOut=true)
  (hb:wE ρ fresh s.inn.blks s.out.blks (yL (zbT ρ s.inn.blks.length fresh) s.out (HL.toP s.out.holes y)).2 0 (upd H fz)=some H') :
  ∃ μ',z3 A0 μ H w μ' H' w'/\z9 A0 μ' H' w'/\RL (Rp E A0 μ' H' w') (yL (zbT ρ s.inn.blks.length fresh) s.out (HL.toP s.out.holes y)).1 vs:=by
 let n:=s.inn.blks.length;let m:=s.out.blks.length;let N:=zbT ρ n fresh;let q:=HL.toP (E:=E) s.out.holes y;let q2:=(yC id s.out.vals q).2;have hq:∀p∈q,ZC p:=HL.toP_typed _ _;have hq2:∀p∈q2,ZC p:=zcP _ _ hq;have eHo:(yL id s.out q).2=yF id s.out.blks q2:=rfl;have eR:(yL N s.out q).2=yF N s.out.blks q2:=by
  show yF N s.out.blks (yC N s.out.vals q).2=_;rw [zbm]
 let Hi:=(yL id s.inn (HL.toP s.inn.holes x)).2;let Ho:=yF id s.out.blks q2;let Hr:=yF N s.out.blks q2;have oc_sim:z9 A1 μ1 Ho w':=oc.sim;have hHr:Hr.length=m:=zgm _ _;have hHo:Ho.length=m:=zgm _ _;obtain ⟨T1,S1,u1,u2,u3⟩:=zlh fz S ab.rows;have hfree:=zkw _ _ hf;have used_of_ρ:∀i id,ρ.get i=some (some id)->xG (zn H id)=true:=by
  intro i id hg;obtain ⟨b,hb1,hb2⟩:=ab.under i _ hg;have:=ab.bc i b hb1;rw [zd (by simp [hb2])] at this;obtain ⟨y',hy',hbc⟩:=this;rw [hg] at hy';injection hy' with hy';subst hy';exact hbc.2.2.1
 have lt_of_ρ:∀i id,ρ.get i=some (some id)->id<(upd H fz).length:=fun i id hg=>by rw [u3];exact wu (yA (used_of_ρ i id hg))
 have ne_fresh:∀id t,xY (zn H id)=true->t<m-n->id≠fresh+t:=by
  rintro id t hu ht rfl;rw [(hfree t ht).1] at hu;cases hu
 have hHr':(yL (zbT ρ s.inn.blks.length fresh) s.out (HL.toP s.out.holes y)).2=Hr:=eR;rw [hHr'] at hb;obtain ⟨c1,c2,c3⟩:=zm8 s.inn.blks s.out.blks Hr 0 (upd H fz) H' lt_of_ρ (fun t ht=>by rw [u3];exact (hfree t (by rw [hHr] at ht;show t<m-n;omega)).2)
  (fun i id t hg ht=>ne_fresh id t (yA (used_of_ρ i id hg)) (by rw [hHr] at ht;show t<m-n;omega)) ab.inj hb
 have getHr:∀(t:Nat) (B:Blk E),Hr[t]? =some B->zn Hr t=B:=fun t B h=>by unfold zn;rw [h];rfl
 have nm:n<=m:=by
  by_cases h0:n=0
  .omega
  .have h1:n-1<s.inn.blks.length:=by show n-1<n;omega
   rcases c3 (n-1) _ (zBn h1) with ⟨ws,ws',id,_,e2,_⟩ | e2
   .have:=(zBt.1 e2).1;show n<=m;omega
   .have:=(zBt.1 e2).1;show n<=m;omega
 let μ':Nat->Loc:=fun id=>if fresh<=id/\id<fresh+(m-n) then μ1 (n+(id-fresh)) else μ id;have μ'_used:∀id,xY (zn H id)=true->μ' id=μ id:=by
  intro id hu;refine zd ?_;rintro ⟨h1,h2⟩;exact ne_fresh id (id-fresh) hu (by omega) (by omega)
 have μ'_new:∀t,t<m-n->μ' (fresh+t)=μ1 (n+t):=by
  intro t ht;show (if _ then _ else _)=_;rw [yo];congr 1;omega
 have kept:∀j ws ws' id,s.inn.blks[j]? =some (.box true ws)->s.out.blks[j]? =some (.box true ws')->ρ.get j=some (some id)->μ1 j=μ id:=by
  intro j ws ws' id h1 h2 h3;rw [oc.keep j ws h1 ⟨ws',h2⟩];simp only [Ren.loc,h3]
 have flag:=fun j=>zlu (N:=N) s.out.blks q2 j;have outc:∀j,xY (zn Ho j)=true->(∃ws ws' id,s.inn.blks[j]? =some (.box true ws)/\s.out.blks[j]? =some (.box true ws')/\ρ.get j=some (some id)/\N j=id/\μ1 j=μ id)\/(∃t,t<m-n/\j=n+t/\N j=fresh+t):=by
  intro j hj;have hlt:j<m:=by rw [<-hHo];exact wu hj
  by_cases hjn:j<n
  .rcases c3 j _ (zBn hjn) with ⟨ws,ws',id,e1,e2,e3⟩ | e2
   .refine .inl ⟨ws,ws',id,by rw [zBn hjn,e1],e2,by simpa using e3,?_,kept j ws ws' id (by rw [zBn hjn,e1]) e2 (by simpa using e3)⟩;have e3:ρ.get j=some (some id):=by simpa using e3
    show zbT ρ n fresh j=id;simp only [zbT];have hbl:Nat.blt j n=true:=Nat.ble_eq_true_of_le hjn;rw [zb hbl,e3]
   .exfalso;have:∀(bs:List BK) (qs:List (zj E)) (j:Nat),bs[j]? =some .gone->zn (yF id bs qs) j= .free:=by
     intro bs
     induction bs with
     | nil=>intro qs j h;simp at h
     | cons b bs ih =>
      intro qs j h;cases j with
      | zero=>simp at h;subst h;rfl
      | succ j=>exact ih _ j (by simpa using h)
    rw [show zn Ho j= .free from this _ _ _ e2] at hj;cases hj
  .refine .inr ⟨j-n,by omega,by omega,?_⟩;show zbT ρ n fresh j=_;simp only [zbT];have hbl: ¬Nat.blt j n=true:=fun h=>hjn (zB0 h);rw [zd hbl]
 have clsN:∀j,xY (zn Ho j)=true->zn H' (N j)=zn Hr j:=by
  intro j hj;have hB:∃B,Hr[j]? =some B:=by
   have:j<Hr.length:=by rw [hHr,<-hHo];exact wu hj
   exact ⟨_,zBn this⟩
  obtain ⟨B,hB⟩:=hB;rcases outc j hj with ⟨ws,ws',id,h1,h2,h3,h4,h5⟩ | ⟨t,h1,h2,h3⟩
  .rw [h4];cases c2 id with
   | box i ws2 ws2' B2 g1 g2 g3 g4 g5 =>
    have:i=j:=ab.inj i j id (by simpa using g4) h3;subst this;rw [g5,getHr _ _ g3]
   | dead i e g1 g4 g5 =>
    have:i=j:=ab.inj i j id (by simpa using g4) h3;subst this;rw [h1] at g1;simp at g1
   | new t B2 g3 g4 g5 =>
    exact zk g4 (ne_fresh id t (yA (used_of_ρ j id h3)) (by have:=(zBt.1 g3).1;rw [hHr] at this;show t<m-n;omega))
   | same g5 g1 g2 =>
    rcases g1 j _ h1 (by simpa using h3) with ⟨_,e⟩ | ⟨_,e⟩ | ⟨_,e⟩<;>cases e
  .rw [h3];cases c2 (fresh+t) with
   | box i ws2 ws2' B2 g1 g2 g3 g4 g5=>exact zk rfl (ne_fresh _ t (yA (used_of_ρ i _ (by simpa using g4))) h1)
   | dead i e g1 g4 g5=>exact zk rfl (ne_fresh _ t (yA (used_of_ρ i _ (by simpa using g4))) h1)
   | new t2 B2 g3 g4 g5 =>
    have:t2=t:=by omega
    subst this;rw [g5,h2];exact (getHr _ _ g3).symm
   | same g5 g1 g2=>exact zk rfl (g2 t (by rw [hHr];show n+t<m;omega))
 have hN:∀j,Us Ho j->Us H' (N j)/\μ' (N j)=μ1 j:=by
  intro j hj;refine ⟨?_,?_⟩
  .unfold Us;rw [clsN j hj,(flag j).2.2.2];exact hj
  .rcases outc j hj with ⟨ws,ws',id,h1,h2,h3,h4,h5⟩ | ⟨t,h1,h2,h3⟩
   .rw [h4,μ'_used id (yA (used_of_ρ j id h3)),h5]
   .rw [h3,μ'_new t h1,h2]
 have cls:∀id,(∃j,xY (zn Ho j)=true/\N j=id/\zn H' id=zn Hr j/\μ' id=μ1 j)\/xG (zn H' id)=false/\xY (zn H' id)=true/\xY (zn H id)=true \/
   (zn H' id=zn (upd H fz) id/\(xY (zn (upd H fz) id)=true->xY (zn H id)=true/\μ' id=μ id)/\∀j,ρ.get j=some (some id)->xu (zn Hi j)=false)\/zn H' id= .free:=by
  intro id;cases c2 id with
  | box i ws ws' B h1 h2 h3 h4 h5 =>
   have h4:ρ.get i=some (some id):=by simpa using h4
   have hu:xY (zn Ho i)=true:=by
    rw [<-(flag i).2.2.2];have:∀(bs:List BK) (qs:List (zj E)) (i:Nat) ws,bs[i]? =some (.box true ws)->xY (zn (yF N bs qs) i)=true:=by
     intro bs
     induction bs with
     | nil=>intro qs i ws h;simp at h
     | cons b bs ih =>
      intro qs i ws h;cases i with
      | zero=>simp at h;subst h;rfl
      | succ i=>exact ih _ i ws (by simpa using h)
    exact this _ _ _ _ h2
   rcases outc i hu with ⟨_,_,id',g1,g2,g3,g4,g5⟩ | ⟨t,g1,g2,g3⟩
   .rw [h4] at g3;simp at g3;subst g3;exact .inl ⟨i,hu,g4,by rw [<-g4];exact clsN i hu,by rw [<-g4];exact (hN i hu).2⟩
   .have:=(zBt.1 h1).1;have:i<n:=this;omega
  | dead i e h1 h4 h5 =>
   exact .inr (.inl ⟨by rw [h5];rfl,by rw [h5];rfl,yA (used_of_ρ i id (by simpa using h4))⟩)
  | new t B h3 h4 h5 =>
   have ht:n+t<m:=by have:=(zBt.1 h3).1;rw [hHr] at this;exact this
   by_cases hu:xY (zn Ho (n+t))=true
   .rcases outc _ hu with ⟨_,_,id',g1,g2,g3,g4,g5⟩ | ⟨t',g1,g2,g3⟩
    .have:=(zBt.1 g1).1;have:n+t<n:=this;omega
    .have:t'=t:=by omega
     subst this;rw [h4];exact .inl ⟨n+t',hu,g3,by rw [<-g3];exact clsN _ hu,by rw [<-g3];exact (hN _ hu).2⟩
   .refine .inr (.inr (.inr ?_));rw [h5,<-getHr _ _ h3];have:=(flag (n+t)).2.2.2;have h0:xY (zn Hr (n+t))=false:=by
     have e:xY (zn Hr (n+t))=xY (zn Ho (n+t)):=this;rw [e];simpa using hu
    show zn Hr (n+t)= .free;cases hB:zn Hr (n+t) with
    | free=>rfl
    | _=>rw [hB] at h0;cases h0
  | same h5 h1 h2 =>
   refine .inr (.inr (.inl ⟨h5,fun hu=>?_,fun j hj=>?_⟩))
   .have hu':xY (zn H id)=true:=by
     by_cases hid:id∈fz
     .obtain ⟨wr,e,l,hB⟩:=ab.rows id hid;rw [hB];rfl
     .rw [<-u1 id hid];exact hu
    exact ⟨hu',μ'_used id hu'⟩
   .obtain ⟨b,hb1,hb2⟩:=ab.under j _ hj;have hbj:=ab.bc j b hb1;rw [zd (by simp [hb2])] at hbj;obtain ⟨y',hy',hbc⟩:=hbj;have hst:∀(bs:List BK) (qs:List (zj E)) (i:Nat) (b:BK),bs[i]? =some b->(∃ws,b= .box false ws)\/(∃e,b= .row false e)\/(∃es,b= .map es)->xu (zn (yF _root_.id bs qs) i)=false:=by
     intro bs
     induction bs with
     | nil=>intro qs i b h;simp at h
     | cons c bs ih =>
      intro qs i b h hh;cases i with
      | zero =>
       simp at h;subst h;rcases hh with ⟨ws,rfl⟩ | ⟨e,rfl⟩ | ⟨es,rfl⟩
       .rfl
       rotate_left
       .rfl
       .cases qs with
        | nil=>rfl
        | cons q qs =>
         simp only [yF,wS,zn,zCv,zCg];split
         .split<;>rfl
         .rfl
      | succ i=>exact ih _ i b (by simpa using h) hh
    exact hst _ _ _ _ hb1 (h1 j b hb1 (by simpa using hj))
 have hiLive:∀b,Lv (ρ.loc μ) Hi b->∃j id o c d,ρ.get j=some (some id)/\xu (zn Hi j)=true/\xu (zn H id)=true/\μ id= .blk b o c d:=by
  rintro b ⟨j,o,c,d,h1,h2⟩;have hj:j<n:=by
   have:=wu (yA (yN h1));rw [ab.len] at this;exact this
  have hb0:=ab.bc j _ (zBn hj);split at hb0
  .rw [hb0] at h1;cases h1
  .obtain ⟨y',hy',hbc⟩:=hb0;cases y' with
   | none=>simp only [Ren.loc,hy'] at h2;cases h2
   | some id =>
    simp only [Ren.loc,hy'] at h2;exact ⟨j,id,o,c,d,hy',h1,hbc.2.2.2.1 h1,h2⟩
 have other:∀id b o c d,zn H' id=zn (upd H fz) id->(∀j,ρ.get j=some (some id)->xu (zn Hi j)=false)->xG (zn (upd H fz) id)=true->μ id= .blk b o c d->¬Lv (ρ.loc μ) Hi b:=by
  intro id b o c d _ hnl hm hμ hl;obtain ⟨j,id',o',c',d',g1,g2,g3,g4⟩:=hiLive b hl;have hne:id'≠id:=by
   rintro rfl;rw [hnl j g1] at g2;cases g2
  have hm':xG (zn H id)=true:=by
   by_cases hid:id∈fz
   .obtain ⟨wr,e,l,hB⟩:=ab.rows id hid;rw [hB];rfl
   .rw [<-u1 id hid];exact hm
  exact S.inj id' id b o' c' d' b o c d hne g3 hm' g4 hμ rfl
 have liveU:∀id,xu (zn (upd H fz) id)=true->xu (zn H id)=true/\id∉fz:=by
  intro id hl;by_cases hid:id∈fz
  .obtain ⟨e,l,hB⟩:=u2 id hid;rw [hB] at hl;cases hl
  .rw [u1 id hid] at hl;exact ⟨hl,hid⟩
 have T:z3 A0 μ H w μ' H' w':=by
  refine ⟨oc.adv.os,oc.adv.tape,oc.adv.output,oc.adv.size,fun b hb hl=>oc.adv.block b hb (fun h=>hl (ab.lv b h)),?_,?_,c1.trans u3⟩
  .rintro b hb ⟨id,o,c,d,hl,hμ⟩;rcases cls id with ⟨j,g1,g2,g3,g4⟩ | ⟨g1,_⟩ | ⟨g1,g2,g3⟩ | g1
   .have:Lv μ1 Ho b:=⟨j,o,c,d,by rw [<-(flag j).1];show xu (zn Hr j)=true;rw [<-g3];exact hl,g4.symm.trans hμ⟩
    exact ab.lv b (oc.adv.lv b hb this)
   .rw [yN hl] at g1;cases g1
   .rw [g1] at hl;obtain ⟨k1,k2⟩:=g2 (yA (yN hl));exact ⟨id,o,c,d,(liveU id hl).1,k2.symm.trans hμ⟩
   .rw [g1] at hl;cases hl
  .intro id hu;refine ⟨?_,μ'_used id hu⟩;unfold Us;rcases cls id with ⟨j,g1,g2,g3,g4⟩ | ⟨_,g1,_⟩ | ⟨g1,g2,g3⟩ | g1
   .rw [g3];have:=(flag j).2.2.2;show xY (zn Hr j)=true;exact this.trans g1
   .exact g1
   .rw [g1];by_cases hid:id∈fz
    .obtain ⟨e,l,hB⟩:=u2 id hid;rw [hB];rfl
    .rw [u1 id hid];exact hu
   .exfalso;cases c2 id with
    | box i ws ws' B h1 h2 h3 h4 h5 =>
     have hw:∀(bs:List BK) (qs:List (zj E)) (i:Nat) ws,bs[i]? =some (.box true ws)->xY (zn (yF N bs qs) i)=true:=by
      intro bs
      induction bs with
      | nil=>intro qs i ws h;simp at h
      | cons b bs ih =>
       intro qs i ws h;cases i with
       | zero=>simp at h;subst h;rfl
       | succ i=>exact ih _ i ws (by simpa using h)
     have:=hw _ q2 _ _ h2;rw [show zn (yF N s.out.blks q2) i=B from getHr _ _ h3,<-h5,g1] at this;cases this
    | dead i e h1 h4 h5=>rw [g1] at h5;cases h5
    | new t B h3 h4 h5=>exact ne_fresh id t hu (by have:=(zBt.1 h3).1;rw [hHr] at this;have:n+t<m:=this;omega) h4
    | same h5 h1 h2 =>
     rw [g1] at h5;by_cases hid:id∈fz
     .obtain ⟨e,l,hB⟩:=u2 id hid;rw [hB] at h5;cases h5
     .rw [u1 id hid] at h5;have hu:xY (zn H id)=true:=hu;rw [<-h5] at hu;cases hu
 have hAv:∀b,Av A0 μ' H' b->Av A1 μ1 Ho b:=by
  rintro b (h | ⟨id,o,c,d,hl,hμ⟩)
  .exact .inl ⟨oc.up b (ab.up b h.1),h.2⟩
  .rcases cls id with ⟨j,g1,g2,g3,g4⟩ | ⟨g1,_⟩ | ⟨g1,g2,g3⟩ | g1
   .exact .inr ⟨j,o,c,d,by rw [<-(flag j).1];show xu (zn Hr j)=true;rw [<-g3];exact hl,g4.symm.trans hμ⟩
   .rw [yN hl] at g1;cases g1
   .rw [g1] at hl;obtain ⟨k1,k2⟩:=g2 (yA (yN hl));have hμ:μ id= .blk b o c d:=k2.symm.trans hμ;have hno:=other id b o c d g1 g3 (yN hl) hμ;have hf:∀k∈fz,∀o n c,μ k≠ .blk b o n c:=by
     intro k hk o' n' c' hk';obtain ⟨wr,e,l,hB⟩:=ab.rows k hk;have hne:id≠k:=fun e=>(liveU id hl).2 (e▸hk);exact S.inj id k b o c d b o' n' c' hne (liveU id hl).1 (by rw [hB];rfl) hμ hk' rfl
    rcases ab.rest b ⟨id,o,c,d,(liveU id hl).1,hμ⟩ hf with h | h
    .exact .inl ⟨oc.up b h,fun hk=>(S.out id b o c d (xy (liveU id hl).1) hμ).1 (hkb b hk)⟩
    .exact zk h hno
   .rw [g1] at hl;cases hl
 have S':z9 A0 μ' H' w':=by
  refine ⟨fun id=>?_,?_,?_⟩
  .rcases cls id with ⟨j,g1,g2,g3,g4⟩ | ⟨g1,g1',_⟩ | ⟨g1,g2,g3⟩ | g1
   .have:=zpI (N:=N) (A'':=Av A0 μ' H') (U'':=Us H') (M'':=μ') hN hAv s.out.blks q2 j _ hq2 (oc_sim.ok j);rw [g3,g4];exact this
   .cases hB:zn H' id with
    | free=>trivial
    | dead=>trivial
    | _=>rw [hB] at g1;cases g1
   .rw [g1];cases hu:xY (zn (upd H fz) id) with
    | false =>
     cases hB:zn (upd H fz) id with
     | free=>trivial
     | _=>rw [hB] at hu;cases hu
    | true =>
     obtain ⟨k1,k2⟩:=g2 hu;rw [k2];have T2:z3 A0 μ (upd H fz) w μ' H' w':=by
      refine ⟨T.os,T.tape,T.output,T.size,?_,?_,?_,c1⟩
      .intro b hb hl;refine oc.adv.block b hb (fun h=>?_);obtain ⟨j,id',o,c,d,p1,p2,p3,p4⟩:=hiLive b h;exact hl ⟨id',o,c,d,by rw [u1 id' (ab.apart j id' p1)];exact p3,p4⟩
      .rintro b hb ⟨id',o,c,d,hl',hμ'⟩;rcases cls id' with ⟨j,p1,p2,p3,p4⟩ | ⟨p1,_⟩ | ⟨p1,p2,p3⟩ | p1
       .have:Lv μ1 Ho b:=⟨j,o,c,d,by rw [<-(flag j).1];show xu (zn Hr j)=true;rw [<-p3];exact hl',p4.symm.trans hμ'⟩
        obtain ⟨j2,id2,o2,c2',d2,r1,r2,r3,r4⟩:=hiLive b (oc.adv.lv b hb this);exact ⟨id2,o2,c2',d2,by rw [u1 id2 (ab.apart j2 id2 r1)];exact r3,r4⟩
       .rw [yN hl'] at p1;cases p1
       .rw [p1] at hl';exact ⟨id',o,c,d,hl',(p2 (yA (yN hl'))).2.symm.trans hμ'⟩
       .rw [p1] at hl';cases hl'
      .intro id' hu';have hu0:Us H id':=by
        unfold Us at hu' ⊢;by_cases hid:id'∈fz
        .obtain ⟨wr,e,l,hB⟩:=ab.rows id' hid;rw [hB];rfl
        .rw [<-u1 id' hid];exact hu'
       exact T.used id' hu0
     refine (S1.ok id).keep T2 (fun b o c d hm hμ=>oc.adv.block b ?_ (other id b o c d g1 g3 hm hμ));exact (S1.ok id).lt hm hμ
   .rw [g1];trivial
  .intro i j b o n' c b' o' n'' c' hne hi hj hμi hμj;have hi1:=cls i;have hj1:=cls j;rcases hi1 with ⟨k,g1,g2,g3,g4⟩ | ⟨g1,_⟩ | ⟨g1,g2,g3⟩ | g1
   .have hlk:xu (zn Ho k)=true:=by rw [<-(flag k).1];show xu (zn Hr k)=true;rw [<-g3];exact hi
    have hμk:μ1 k= .blk b o n' c:=g4.symm.trans hμi;rcases hj1 with ⟨k2,p1,p2,p3,p4⟩ | ⟨p1,_⟩ | ⟨p1,p2,p3⟩ | p1
    .have hmk:xG (zn Ho k2)=true:=by rw [<-(flag k2).2.1];show xG (zn Hr k2)=true;rw [<-p3];exact hj
     exact oc_sim.inj k k2 b o n' c b' o' n'' c' (fun e=>hne (by rw [<-g2,<-p2,e])) hlk hmk hμk (p4.symm.trans hμj)
    .rw [hj] at p1;cases p1
    .rw [p1] at hj;obtain ⟨r1,r2⟩:=p2 (yA hj);have hμj':μ j= .blk b' o' n'' c':=r2.symm.trans hμj;rintro rfl;have hlt:b<w.heap.size:=(S1.ok j).lt hj hμj';exact other j b o' n'' c' p1 p3 hj hμj' (oc.adv.lv b hlt ⟨k,o,n',c,hlk,hμk⟩)
    .rw [p1] at hj;cases hj
   .rw [yN hi] at g1;cases g1
   .rw [g1] at hi;obtain ⟨k1,k2⟩:=g2 (yA (yN hi));have hμi':μ i= .blk b o n' c:=k2.symm.trans hμi;rcases hj1 with ⟨k2',p1,p2,p3,p4⟩ | ⟨p1,_⟩ | ⟨p1,p2,p3⟩ | p1
    .have hmk:xG (zn Ho k2')=true:=by rw [<-(flag k2').2.1];show xG (zn Hr k2')=true;rw [<-p3];exact hj
     have hμk:μ1 k2'= .blk b' o' n'' c':=p4.symm.trans hμj;rintro rfl;have hown:ZY (zn Ho k2')=true:=by
      have:∀(bs:List BK) (qs:List (zj E)) (i:Nat),bs.all BK.handsOut=true->xG (zn (yF id bs qs) i)=true->ZY (zn (yF id bs qs) i)=true:=by
       intro bs
       induction bs with
       | nil=>intro qs i _ h;cases h
       | cons c bs ih =>
        intro qs i hh hm;simp only [List.all_cons,zBl] at hh;cases i with
        | zero =>
         cases c with
         | gone=>cases hm
         | box wr ws=>exact hh.1
         | map es=>cases hh.1
         | row wr e =>
          have hm:xG (wS id (.row wr e) qs).1=true:=hm;show ZY (wS id (.row wr e) qs).1=true;cases hB:(wS id (.row wr e) qs).1 with
          | box a b =>
           exfalso;cases qs with
           | nil=>simp [wS] at hB
           | cons q qs =>
            simp only [wS] at hB;split at hB
            .split at hB<;>cases hB
            .cases hB
          | free=>rw [hB] at hm;cases hm
          | dead=>rw [hB] at hm;cases hm
          | row _ _ _=>rfl
          | rowh _ _ _ _=>rfl
          | map _ _ =>
           exfalso;cases qs with
           | nil=>simp [wS] at hB
           | cons q qs =>
            simp only [wS] at hB;split at hB
            .split at hB<;>cases hB
            .cases hB
        | succ i=>exact ih _ i hh.2 hm
      exact this _ _ _ ho hmk
     have hno:=other i b o n' c g1 g3 (yN hi) hμi';have hf:∀k∈fz,∀o n c,μ k≠ .blk b o n c:=by
      intro k hk o'' n3 c'' hk';obtain ⟨wr,e,l,hB⟩:=ab.rows k hk;have hne:i≠k:=fun e=>(liveU i hi).2 (e▸hk);exact S.inj i k b o n' c b o'' n3 c'' hne (liveU i hi).1 (by rw [hB];rfl) hμi' hk' rfl
     rcases ab.rest b ⟨i,o,n',c,(liveU i hi).1,hμi'⟩ hf with h | h
     .exact (oc_sim.out k2' b o' n'' c' hown hμk).1 (oc.up b h)
     .exact hno h
    .rw [hj] at p1;cases p1
    .rw [p1] at hj;exact S1.inj i j b o n' c b' o' n'' c' hne hi hj hμi' ((p2 (yA hj)).2.symm.trans hμj)
    .rw [p1] at hj;cases hj
   .rw [g1] at hi;cases hi
  .intro id b o c d hown hμ;rcases cls id with ⟨j,g1,g2,g3,g4⟩ | ⟨g1,_⟩ | ⟨g1,g2,g3⟩ | g1
   .have hoj:ZY (zn Ho j)=true:=by rw [<-(flag j).2.2.1];show ZY (zn Hr j)=true;rw [<-g3];exact hown
    have:=oc_sim.out j b o c d hoj (g4.symm.trans hμ);exact ⟨fun h=>this.1 (oc.up b (ab.up b h)),this.2⟩
   .rw [zeC hown] at g1;cases g1
   .rw [g1] at hown;have:=S1.out id b o c d hown ((g2 (yA (zeC hown))).2.symm.trans hμ);exact ⟨this.1,zBK this.2 oc.adv.size⟩
   .rw [g1] at hown;cases hown
 refine ⟨μ',T,S',?_⟩;exact (zco (N:=N) (A'':=Av A0 μ' H') (U'':=Us H') (M'':=μ') hN hAv s.out.vals q vs hq oc.rep).1
end
end Go.Pe
namespace Go.Pe
variable {E:yG}
def Z0:Option Nat->Fence
 | none=>Fence.wide
 | some l=>Fence.wide.inRound l
theorem zgE (ro:Option Nat) (f:FuncId):(Z0 ro).fn f:=by cases ro<;>trivial
theorem zix (ro:Option Nat):(Z0 ro).depth=none:=by cases ro<;>rfl
theorem zAG (ro:Option Nat):(Z0 ro).round=ro:=by cases ro<;>rfl
theorem zvu {P:Program}{ro:Option Nat}{n:Nat}{f:FuncId}{args:Array Value}{w:World}{R:Ending->World->Prop}(h:Calls P f args w R):CallsIn (Z0 ro) n P f args w R:=by
 cases ro with
 | none=>exact callsIn_wide.2 h
 | some l=>exact CallsIn.inRound l (callsIn_wide.2 h)
structure YK (C:Cfg E) (P:Program) (G:Nat->Prop) (W0:World) where
 y:Int
 J:Nat->(Nat->Prop)->(Nat->Prop)->World->Prop
 low:∀ {l A L W},J l A L W->∀b,A b->b<W.heap.size
 stable:∀ {l A L L' W W'},J l A L W->yv W W'->(∀b,b<W.heap.size->¬L b->W'.heap[b]? =W.heap[b]?)->(∀b,b<W.heap.size->L' b->L b)->(∀b,L' b->b<W'.heap.size/\¬A b)->J l A L' W'
 yield_:∀ {l A L W} (m:Nat) (v:Value) (z:Den E.T C.ye),C.yd[l]? =some z->J l A L W->yz E W (fun b=>(A b/\¬Kb b)\/L b) C.ye v z->YieldAt (Z0 none) m P y.toNat #[v] W fun r W'=>r= .returned (.bool true)/\∃A',J (l+1) A' L W'/\(∀b,A b->A' b) /\
  (∀b,A' b->A b\/W.heap.size<=b)/\yv W W'/\(∀b,b<W.heap.size->¬A b\/Kb b->W'.heap[b]? =W.heap[b]?)/\∀g,G g->W'.heap[g]? =W0.heap[g]?
def Ys {C:Cfg E}{P:Program}{G:Nat->Prop}{W0:World}(yk:Option (YK C P G W0)) (A0:Nat->Prop) (μ:Nat->Loc) (H:List (Blk E)) (w:World) (env:List (zj E)):Prop:=∀k,yk=some k ->
 (∃(tr:Nat) (A:Nat->Prop),env[0]? =some (zj.yld k.y (tr:Int))/\k.J tr A (Lv μ H) w/\∀b,A b->A0 b)/\∀(t:Nat) (m i:Int),env[t]? =some (zj.yld m i)->m=k.y
def Marks (G A0:Nat->Prop) (w:World) (ds:List Deferred):Prop :=
 (∀d∈ds,∃D,d={target:= .collected D,args:= #[]}/\w.heap[D]? =some (.deferred (some []))/\A0 D/\¬G D)/\ds.Pairwise (fun d d'=>d.target≠d'.target)
structure St {C:Cfg E}{P:Program}(G:Nat->Prop) (W0:World) (yk:Option (YK C P G W0)) (A0:Nat->Prop) (μ:Nat->Loc) (H:List (Blk E)) (w:World) (env:List (zj E)) (a:Act):Prop where
 wd:Wd G W0 A0 w
 sim:z9 A0 μ H w
 size:a.tmps.size=env.length
 rep:∀t p,env[t]? =some p->Rp E A0 μ H w p (a.tmps.getD t undef)
 marks:Marks G A0 w a.defers
 nomark:yk.isSome=true->a.defers=[]
 ys:Ys yk A0 μ H w env
structure Mid (fr:Bool) (A0:Nat->Prop) (μ:Nat->Loc) (H:List (Blk E)) (w:World) (A1:Nat->Prop) (μ':Nat->Loc) (H':List (Blk E)) (w':World):Prop where
 q:yv w w'
 block:fr=false->∀b,b<w.heap.size->¬Lv μ H b->w'.heap[b]? =w.heap[b]?
 lv:∀b,b<w.heap.size->Lv μ' H' b->Lv μ H b
 up:∀b,A0 b->A1 b
 used:∀id,Us H id->Us H' id/\μ' id=μ id
theorem z3.mid {A0:Nat->Prop}{μ μ':Nat->Loc}{H H':List (Blk E)}{w w':World}{fr:Bool}(T:z3 A0 μ H w μ' H' w'):Mid fr A0 μ H w A0 μ' H' w' :=
 ⟨⟨T.os,T.tape,T.output,T.size⟩,fun _=>T.block,T.lv,fun _ h=>h,T.used⟩
theorem yv.trans {a b c:World}(h:yv a b) (k:yv b c):yv a c:=⟨k.os.trans h.os,k.tape.trans h.tape,k.output.trans h.output,zCf h.size k.size⟩
theorem Mid.refl {A0:Nat->Prop}{μ:Nat->Loc}{H:List (Blk E)}{w:World}{fr:Bool}:Mid fr A0 μ H w A0 μ H w:=(z3.refl _ _ _ _).mid
theorem Mid.trans {fr:Bool}{A0 A1 A2:Nat->Prop}{μ μ1 μ2:Nat->Loc}{H H1 H2:List (Blk E)}{w w1 w2:World}(h:Mid fr A0 μ H w A1 μ1 H1 w1) (k:Mid fr A1 μ1 H1 w1 A2 μ2 H2 w2):Mid fr A0 μ H w A2 μ2 H2 w2 :=
 ⟨h.q.trans k.q,fun hf b hb hl=>(k.block hf b (zBK hb h.q.size) (fun hl1=>hl (h.lv b hb hl1))).trans (h.block hf b hb hl),
  fun b hb hl=>h.lv b hb (k.lv b (zBK hb h.q.size) hl),fun b hb=>k.up b (h.up b hb),
  fun id hu=>⟨(k.used id (h.used id hu).1).1,(k.used id (h.used id hu).1).2.trans (h.used id hu).2⟩⟩
section
variable {C:Cfg E}{P:Program}{G:Nat->Prop}{W0:World}{yk:Option (YK C P G W0)}{A0:Nat->Prop}{μ:Nat->Loc}{H:List (Blk E)}{w:World}{env:List (zj E)}{a:Act}
theorem St.slot (S:St G W0 yk A0 μ H w env a) (t:Nat):Rp E A0 μ H w ((env[t]?).getD .any) (a.tmps.getD t undef):=by
 cases h:env[t]? with
 | none=>exact .any _
 | some p=>exact S.rep t p h
theorem St.eval (S:St G W0 yk A0 μ H w env a) (x:Operand):Rp E A0 μ H w (u4 env x) (a.eval x):=by
 cases x with
 | tmp t=>exact S.slot t
 | const v=>exact zuq v
 | func f=>exact .fn f [] #[] rfl (fun i hi=>by simp at hi)
 | global g=>exact .any _
theorem Wd.trans {μ':Nat->Loc}{H':List (Blk E)}{w':World}(h:Wd G W0 A0 w) (S:z9 A0 μ H w) (T:z3 A0 μ H w μ' H' w'):Wd G W0 A0 w' :=
 ⟨fun b hb=>zBK (h.low b hb) T.size,fun g hg=>by
  obtain ⟨h1,h2⟩:=h.glob g hg;refine ⟨h1,(T.block g (h.low g h1) ?_).trans h2⟩;rintro ⟨id,o,n,c,hl,hm⟩;exact (S.out id g o n c (xy hl) hm).1 h1,h.kb⟩
theorem Marks.step {A1:Nat->Prop}{w':World}{ds:List Deferred}(h:Marks G A0 w ds) (hb:∀b,b<w.heap.size->A0 b->w'.heap[b]? =w.heap[b]?) (up:∀b,A0 b->A1 b):Marks G A1 w' ds :=
 ⟨fun d hd=>by
  obtain ⟨D,h1,h2,h3,h4⟩:=h.1 d hd;exact ⟨D,h1,(hb D (zBP.1 h2).1 h3).trans h2,up D h3,h4⟩,h.2⟩
theorem Ys.trans {μ':Nat->Loc}{H':List (Blk E)}{w':World}(h:Ys yk A0 μ H w env) (T:z3 A0 μ H w μ' H' w') (S':z9 A0 μ' H' w'):Ys yk A0 μ' H' w' env:=fun k hk=>by
 obtain ⟨⟨tr,A,h1,h2,h3⟩,h5⟩:=h k hk;refine ⟨⟨tr,A,h1,k.stable h2 ⟨T.os,T.tape,T.output,T.size⟩ T.block T.lv ?_,h3⟩,h5⟩;rintro b ⟨id,o,n,c,hl,hm⟩;have:=S'.out id b o n c (xy hl) hm;exact ⟨this.2,fun ha=>this.1 (h3 b ha)⟩
theorem St.trans {μ':Nat->Loc}{H':List (Blk E)}{w':World}(S:St G W0 yk A0 μ H w env a) (T:z3 A0 μ H w μ' H' w') (S':z9 A0 μ' H' w'):St G W0 yk A0 μ' H' w' env a :=
 ⟨S.wd.trans S.sim T,S',S.size,fun t p h=>T.rep (S.rep t p h),S.marks.step (fun b hb ha=>T.block b hb (fun ⟨id,o,n,c,hl,hm⟩=>(S.sim.out id b o n c (xy hl) hm).1 ha)) (fun _ h=>h),S.nomark,S.ys.trans T S'⟩
theorem St.put' (S:St G W0 yk A0 μ H w env a) {p:zj E}{v:Value}(h:Rp E A0 μ H w p v) (d:Option Nat) (hd:yk.isSome=true->d≠some 0) (hy:∀k,yk=some k->∀(m i:Int),p=zj.yld m i->m=k.y):St G W0 yk A0 μ H w (Pe.put env d p) (a.put d v):=by
 cases d with
 | none=>exact S
 | some d =>
  refine ⟨S.wd,S.sim,?_,fun t q hq=>?_,S.marks,S.nomark,fun k hk=>?_⟩
  .show (a.tmps.setIfInBounds d v).size=(env.set d p).length;simp [S.size]
  .replace hq:(env.set d p)[t]? =some q:=hq;show Rp E A0 μ H w q ((a.tmps.setIfInBounds d v).getD t undef);rw [zBZ] at hq;split at hq
   .rename_i e;subst e;split at hq
    .rename_i hlt;injection hq with hq;subst hq;have:d<a.tmps.size:=by rw [S.size];exact hlt
     simpa [zBN,this] using h
    .cases hq
   .rename_i hne;have:=S.rep t q hq;rw [zBN,zCZ hne,<-zBN];exact this
  .obtain ⟨⟨tr,A,h1,h2,h3⟩,h5⟩:=S.ys k hk;have hd0:d≠0:=fun e=>hd (by rw [hk];rfl) (by rw [e]);refine ⟨⟨tr,A,?_,h2,h3⟩,fun t m i ht=>?_⟩
   .show (env.set d p)[0]? =_;rw [zBI hd0];exact h1
   .replace ht:(env.set d p)[t]? =some (.yld m i):=ht;rw [zBZ] at ht;split at ht
    .split at ht
     .injection ht with ht;exact hy k hk m i ht
     .cases ht
    .exact h5 t m i ht
theorem St.put (S:St G W0 yk A0 μ H w env a) {p:zj E}{v:Value}(h:Rp E A0 μ H w p v) (d:Option Nat) (hn:yk=none):St G W0 yk A0 μ H w (Pe.put env d p) (a.put d v) :=
 S.put' h d (fun h=>by rw [hn] at h;cases h) (fun k hk=>by rw [hn] at hk;cases hk)
theorem zuL {p:zj E}{v:Value}(h:Rp E A0 μ H w p v):Rp E A0 μ H w (noY p) v:=by
 cases p<;>first | exact h | exact .any v
theorem zwL {p:zj E}{m i:Int}:noY p≠ .yld m i:=by cases p<;>simp [noY]
theorem St.refine (S:St G W0 yk A0 μ H w env a) {b:Bool}{d:Nat}{q:Den E.T .bool}(hq:(env[d]?).getD .any= .v .bool q) (h:Rp E A0 μ H w (.v .bool b) (a.tmps.getD d undef)):St G W0 yk A0 μ H w (env.set d (.v .bool b)) a:=by
 refine ⟨S.wd,S.sim,by simp [S.size],fun t q hq=>?_,S.marks,S.nomark,fun k hk=>?_⟩
 .rw [zBZ] at hq;split at hq
  .rename_i e;subst e;split at hq
   .injection hq with hq;subst hq;exact h
   .cases hq
  .exact S.rep t q hq
 .obtain ⟨⟨tr,A,h1,h2,h3⟩,h5⟩:=S.ys k hk;have hd0:d≠0:=fun e=>by subst e;rw [h1] at hq;cases hq
  refine ⟨⟨tr,A,by rw [zBI hd0];exact h1,h2,h3⟩,fun t m i ht=>?_⟩;rw [zBZ] at ht;split at ht
  .split at ht
   .cases ht
   .cases ht
  .exact h5 t m i ht
def YV (P:Program) (f:FuncId):Bool:=match P.funcs[f]? with
 | some fn=>fn.body.isSome&& !(fn.name == "runtime.NumGoroutine")
 | none=>false
theorem zlZ {f:FuncId}(h:YV P f=true) (args:Array Value):(callFunc f args).run P w= .ok (.enter f args) w:=by
 unfold YV at h;split at h
 .rename_i fn hf;simp only [zBl,zBC] at h;have h2:fn.body.isNone=false:=by cases hb:fn.body<;>simp_all
  have h3:(fn.name == "runtime.NumGoroutine")=false:=h.2;simp only [callFunc,Sem.run_bind,run_program,Result.andThen_ok,hf,h3,h2,zBT,if_false,Sem.run_pure]
 .cases h
def zvm (G:Nat->Prop) (W0:World) (yk:Option (YK C P G W0)) (A0:Nat->Prop) (μ:Nat->Loc) (H:List (Blk E)) (w:World) (len:Nat) {R:Type}(K:List (zj E)->List (Blk E)->Option R) (r:R) (N:Act->World->Prop):Prop :=
 ∀env' H' A1 μ' w' a',St G W0 yk A1 μ' H' w' env' a'->Mid yk.isSome A0 μ H w A1 μ' H' w'->(yk=none->A1=A0)->env'.length=len->K env' H'=some r->N a' w'
theorem VP (env:List (zj E)) (d:Option Nat) (p:zj E):(Pe.put env d p).length=env.length:=by cases d<;>simp [Pe.put]
theorem zsl {R:Type}{K:Bool->List (zj E)->Option R}{r:R}{ops:Array Oper}{o:Oper}(S:St G W0 yk A0 μ H w env a) (h:Y7 ops o env K=some r) :
  ∃env',env'.length=env.length/\St G W0 yk A0 μ H w env' a/\K (Region.wanted o (yielded ops a.tmps)) env'=some r:=by
 unfold Y7 at h;split at h
 .rename_i hg;exact ⟨env,rfl,S,by simpa [Region.wanted,hg] using h⟩
 .rename_i j want hg;split at h
  .cases h
  .rename_i d hd;have hs:=S.slot d;split at h
   .rename_i b hb;rw [hb] at hs;have hv:=zkc hs;have hlt:d<a.tmps.size:=by
     by_cases hlt:d<a.tmps.size
     .exact hlt
     .simp [zBN,hlt,undef] at hv
    have hy:yielded ops a.tmps j=some b:=by
     have e:a.tmps[d]? =some (Value.bool b):=by
      rw [zBN] at hv;rw [zCr hlt] at hv ⊢;simpa using hv
     simp only [yielded,hd,zBk,e]
    cases b with
    | true =>
     refine ⟨_,by simp,S.refine (d:=d) (b:=true) hb (by rw [hv];exact .v _ _ _ (.bool _)),?_⟩;have:Region.wanted o (yielded ops a.tmps)=want:=by
      simp only [Region.wanted,hg,hy];cases want<;>rfl
     rw [this];exact h
    | false =>
     refine ⟨_,by simp,S.refine (d:=d) (b:=false) hb (by rw [hv];exact .v _ _ _ (.bool _)),?_⟩;have:Region.wanted o (yielded ops a.tmps)= !want:=by
      simp only [Region.wanted,hg,hy];cases want<;>rfl
     rw [this];exact h
   .rename_i hb;rw [hb] at hs;have hv:a.tmps.getD d undef=undef:=by
     generalize a.tmps.getD d undef=v at hs;cases hs;rfl
    have hy:yielded ops a.tmps j=none:=by
     simp only [yielded,hd,zBk];cases e:a.tmps[d]? with
     | none=>rfl
     | some v =>
      rw [zBN,e] at hv;have hv:v=undef:=hv;subst hv;rfl
    refine ⟨env,rfl,S,?_⟩;have:Region.wanted o (yielded ops a.tmps)=false:=by
     simp only [Region.wanted,hg,hy];rfl
    rw [this];exact h
   .cases h
theorem zyl {ps:List (zj E)}{vs:List Value}(h:RL (Rp E A0 μ H w) ps vs):Rp E A0 μ H w (zqu ps) (znQ vs):=by
 match ps,vs,h with
 | [],[],h=>exact yc.tupleL h
 | [p],[v],h=>exact h.2 0 p v rfl rfl
 | p::q::ps,u::v::vs,h=>exact yc.tupleL h
 | [],_::_,h=>have:=h.1;simp at this
 | _::_,[],h=>have:=h.1;simp at this
 | [_],_::_::_,h=>have:=h.1;simp at this
 | _::_::_,[_],h=>have:=h.1;simp at this
def Z8 (C:Cfg E) (G:Nat->Prop) (W0:World):Prop:=∀f s,s∈C.specs f->YV C.P f=true/\V0 C.P G W0 f s
theorem zqt {f:FuncId}{s:zM E}{args:List (zj E)}{vs:List Value}{fresh:Nat}{R:Type}{K:zj E->List (Blk E)->Option R}{r:R}(hs:V0 P G W0 f s) (wd:Wd G W0 A0 w) (S:z9 A0 μ H w)
  (hr:RL (Rp E A0 μ H w) args vs) (h:zbK s fresh args H K=some r) :
  Calls P f vs.toArray w fun e w'=>∃v p H' μ',e= .returned v/\z3 A0 μ H w μ' H' w'/\z9 A0 μ' H' w'/\Rp E A0 μ' H' w' p v/\K p H'=some r:=by
 unfold zbK at h;split at h;rotate_left
 .cases h
 rename_i x ρ fz hrd;simp only [zBw] at h;obtain ⟨y,hy,h⟩:=h;split at h;rotate_left
 .cases h
 rename_i H' hpb;split at h;rotate_left
 .cases h
 rename_i hc;simp only [zBl] at hc;obtain ⟨⟨Ac,ab⟩,_⟩:=UJ S hr hrd;have wdc:Wd G W0 Ac w:=⟨fun b hb=>by
  rcases ab.down b hb with h | ⟨id,o,n,c,hl,hm⟩
  .exact wd.low b h
  .exact (S.out id b o n c (xy hl) hm).2,fun g hg=>⟨ab.up g (wd.glob g hg).1,(wd.glob g hg).2⟩,fun b hb=>ab.up b (wd.kb b hb)⟩
 refine Calls.mono (hs Ac (ρ.loc μ) w vs.toArray x y wdc ab.sim (by simpa using ab.rep) hy) ?_;rintro e w' ⟨vs',A1,μ1,rfl,oc⟩;obtain ⟨μ',T,S',hrep⟩:=zw7 S wd.low wd.kb ab oc hc.1 hc.2 hpb;exact ⟨_,_,H',μ',rfl,T,S',zyl hrep,h⟩
theorem xN {ro:Option Nat}{n:Nat}{o:Oper}{a:Act}{N:Act->World->Prop}{Q:Exit->Act->World->Prop}(hnd:∀c,o.op≠ .defer c) (h:o.uponIn (Z0 ro) n P a N Q ((execOp a.eval o).run P w)):o.wpIn (Z0 ro) n P a w N Q :=
 ⟨fun f _=>zgE ro f,by rw [Oper.semAt_eq _ _ _ hnd];exact h⟩
theorem zm5 (hP:C.P=P) (hT:yX E.leaves C.P C.tab=true) (hS:Z8 C G W0) {R:Type}{K:zj E->List (Blk E)->Option R}{r:R}{rid i fresh spare:Nat}{o:Oper}{ro:Option Nat}{n:Nat}
  {Q:Exit->Act->World->Prop}{N:Act->World->Prop}(S:St G W0 yk A0 μ H w env a) (h:ziq C rid i fresh spare o env H K=some r)
  (hN:∀p v H' μ' w',Rp E A0 μ' H' w' p v->z3 A0 μ H w μ' H' w'->z9 A0 μ' H' w'->K p H'=some r->N (a.put o.dst v) w'):o.wpIn (Z0 ro) n P a w N Q:=by
 subst hP;unfold ziq at h;split at h
 .-- a call
  rename_i f args hcal;have key:∀l:List Nat,zly (C.specs f) fresh args H K l=some r->∃s,s∈C.specs f/\zbK s fresh args H K=some r:=by
   intro l
   induction l with
   | nil=>intro h;simp [zly] at h
   | cons k ks ih =>
    intro h;cases ks with
    | nil =>
     simp only [zly] at h;split at h
     .rename_i s hs;exact ⟨s,zBq hs,h⟩
     .cases h
    | cons k2 ks =>
     simp only [zly] at h ih;split at h
     .rename_i s hs;rw [Option.or_eq_some_iff] at h;rcases h with h | ⟨_,h⟩
      .exact ⟨s,zBq hs,h⟩
      .exact ih h
     .cases h
  obtain ⟨s,hs,hspec⟩:=key _ h;clear h key;obtain ⟨hcl,hsd⟩:=hS f s hs;unfold Vf at hcal;split at hcal;rotate_left
  .cases hcal
  rename_i fo argso argTypes hop;have fin:∀(g:FuncId) (pargs:List (zj E)) (vargs:List Value),some (g,pargs)=some (f,args)->RL (Rp E A0 μ H w) pargs vargs->(execOp a.eval o).run C.P w=(callFunc g vargs.toArray).run C.P w->o.wpIn (Z0 ro) n C.P a w N Q:=by
   intro g pargs vargs e hargs hrun;cases e;have hc:=zqt hsd S.wd S.sim hargs hspec;refine xN (fun c=>by rw [hop];simp) ?_;rw [hrun,zlZ hcl _,Oper.uponIn_enter];refine ⟨fun h=>(by rw [zix] at h;cases h),zvu (Calls.mono hc ?_)⟩;rintro e w' ⟨v,p,H',μ',rfl,T,S2,hp,hk⟩;exact hN _ _ _ _ _ hp T S2 hk
  have hf:=S.eval fo;split at hcal
  .rename_i g caps hev;rw [hev] at hf;generalize hfv:a.eval fo=fv at hf;cases hf with
   | fn _ _ cs hsz hcs =>
    refine fin g _ (argso.toList.map a.eval++cs.toList) hcal ((zap (fun x=>S.eval x) _).append (RL.of_idx hsz hcs)) ?_;have e:(#[]++Array.map a.eval argso++cs)=(argso.toList.map a.eval++cs.toList).toArray:=by apply zCF.1;simp
    simp only [execOp,hop,resolve,hfv,Deferred.ofValue,Sem.run_bind,Sem.run_pure,Result.andThen_ok,invoke,e]
  .rename_i g first hev
   rw [hev] at hf;generalize hfv:a.eval fo=fv at hf;cases hf with
   | bfn _ _ cs hsz hcs =>
    refine fin g _ (cs.toList++argso.toList.map a.eval) hcal ((RL.of_idx hsz hcs).append (zap (fun x=>S.eval x) _)) ?_;have e:(cs++Array.map a.eval argso++ #[])=(cs.toList++argso.toList.map a.eval).toArray:=by apply zCF.1;simp
    simp only [execOp,hop,resolve,hfv,Deferred.ofValue,Sem.run_bind,Sem.run_pure,Result.andThen_ok,invoke,e]
  .cases hcal
 .-- an operation
  rename_i hcal;generalize (if Nat.beq (UU o.op) 0=true then spare else fresh)=g at h;simp only at h;split at h;rotate_left
  .cases h
  rename_i hfr;have hf0:=zkw _ _ hfr 0 (by omega);simp only [zCd] at hf0;have hnd:∀c,o.op≠ .defer c:=fun c e=>by rw [e] at h;simp [opD,Dec.cps] at h
  obtain ⟨p,H',m,v,w',μ',hrun,hn,T,S2,hp,hk⟩:=zxs (o:=o) hT S.sim ⟨hf0.1,hf0.2,S.wd.low⟩ (fun x=>S.eval x) (fun _=>rfl) h;have fin:=hN _ _ _ _ _ hp T S2 hk;refine xN hnd ?_;rw [hrun];rcases hn with rfl | ⟨rfl,rfl⟩
  .exact fin
  .exact fin
theorem zm7 (hP:C.P=P) (hT:yX E.leaves C.P C.tab=true) (hS:Z8 C G W0) (hyl:C.yl=yk.isSome) {R:Type}{K:List (zj E)->List (Blk E)->Option R}{r:R}{rid i fresh spare:Nat}{ops:Array Oper}{o:Oper}{ro:Option Nat}{n:Nat}(hro:yk.isSome=true->ro=none)
  {Q:Exit->Act->World->Prop}{N:Act->World->Prop}(ho:ops[i]? =some o) (hd:yk.isSome=true->o.dst≠some 0) (S:St G W0 yk A0 μ H w env a) (h:zc6 C (zh0 _) rid i fresh spare ops o env H K=some r)
  (hN:zvm G W0 yk A0 μ H w env.length K r N):wpOpIn (Z0 ro) n P ops Q i N a w:=by
 unfold zc6 at h;obtain ⟨env',hlen,S',h⟩:=zsl S h;unfold wpOpIn;rw [ho];simp only;have same:yk=none->A0=A0:=fun _=>rfl;cases hw:Region.wanted o (yielded ops a.tmps) with
 | false =>
  rw [hw] at h;simp only [zBT,if_false] at h ⊢;exact ⟨fun f _=>zgE ro f,hN _ _ _ _ _ _ (S'.put' .skip o.dst hd (fun k _ m i h=>by cases h)) Mid.refl same (by rw [VP,hlen]) h⟩
 | true =>
  rw [hw] at h;simp only [if_true] at h ⊢;cases hyk:yk with
  | none =>
   rw [hyl,hyk] at h;simp only [Option.isSome_none,zBT,if_false] at h;refine zm5 hP hT hS S' h ?_;intro p v H' μ' w' hp T S2 hk;exact hN _ _ _ _ _ _ ((S'.trans T S2).put hp o.dst hyk) T.mid (fun _=>rfl) (by rw [VP,hlen]) hk
  | some k =>
   have hys:yk.isSome=true:=by rw [hyk];rfl
   obtain rfl:=hro hys;rw [hyl,hys] at h;simp only [if_true] at h;unfold zvX at h;obtain ⟨⟨tr,A,y1,y2,y3⟩,y5⟩:=S'.ys k hyk;split at h
   .-- the first slot
    rename_i hop;refine xN (fun c=>by rw [hop];simp) ?_;have hv:(execOp a.eval o).run P w= .ok (.value (a.eval (.tmp 0))) w:=by simp [execOp,hop]
    rw [hv,Oper.uponIn_value];refine hN _ _ _ _ _ _ (S'.put' (S'.slot 0) o.dst hd (fun k' hk' m i hm=>?_)) Mid.refl same (by rw [VP,hlen]) h;rw [hyk] at hk';cases hk';rw [y1] at hm;simp only [zCg,zj.yld.injEq] at hm;exact hm.1.symm
   .split at h
    .-- it yields
     rename_i x hyo;rw [y1] at h;simp only [zCg] at h;unfold zuC at hyo;split at hyo;rotate_left
     .cases hyo
     rename_i fo argso argTypes hop;split at hyo;rotate_left
     .cases hyo
     rename_i m0 i0 xo hev hargs;injection hyo with hyo;subst hyo;have hf:=S'.eval fo;have hm:m0=k.y:=by
      cases fo with
      | tmp t =>
       simp only [u4] at hev;cases ht:env'[t]? with
       | none=>rw [ht] at hev;cases hev
       | some p=>rw [ht] at hev;simp only [zCg] at hev;subst hev;exact y5 t m0 i0 ht
      | const c =>
       simp only [u4] at hev;unfold zmz at hev;split at hev<;>first | (cases hev;done) | (split at hev<;>cases hev)
      | func f=>cases hev
      | global g=>cases hev
     subst hm;rw [hev] at hf;generalize hfv:a.eval fo=fv at hf;cases hf;obtain ⟨z,H',T,S2,hz,_,hk⟩:=zby S'.sim (S'.eval xo) h;simp only [Dec.cps] at hk;split at hk;rotate_left
     .cases hk
     rename_i hown;simp only [zBw] at hk;obtain ⟨_,hnext,hk⟩:=hk;have hnx:C.yd[tr]? =some z:=by
      unfold zbs at hnext;split at hnext
      .rename_i hc;simpa using hc.2
      .cases hnext
     have S3:=S'.trans T S2;obtain ⟨⟨tr2,A2,q1,q2,q3⟩,q5⟩:=S3.ys k hyk;have e1:tr2=tr:=by rw [y1] at q1;simp only [Option.some.injEq,zj.yld.injEq] at q1;omega
     subst e1;have hzA:yz E w (fun b=>(A2 b/\¬Kb b)\/Lv μ H' b) C.ye (a.eval xo) z:=hz.less (fun b hb=>hb.elim (fun h=>.inl ⟨q3 b h.1,h.2⟩) .inr);obtain ⟨fn,tmps,assign,body,hyr,hround⟩:=k.yield_ (n-1) _ z hnx q2 hzA;have eargs:argso= #[xo]:=by
      have:argso.toList=[xo]:=hargs;rw [<-this]
     refine xN (fun c=>by rw [hop];simp) ?_;have hrun:(execOp a.eval o).run P w= .ok (.round k.y.toNat fn tmps assign body) w:=by
      have e:(#[]++Array.map a.eval argso)= #[a.eval xo]:=by rw [eargs];apply zCF.1;simp
      simp only [execOp,hop,resolve,hfv,Deferred.ofValue,Sem.run_bind,Sem.run_pure,Result.andThen_ok,invoke,Array.append_empty];rw [e];exact hyr
     rw [hrun,Oper.uponIn_round];refine ⟨fun h=>(by rw [zix] at h;cases h),?_⟩;obtain ⟨hr1,hr2⟩:=hround;refine ⟨hr1,fun c cs hroom=>?_⟩;obtain ⟨e,w',⟨rfl,A3,j1,j2,j3,j4,j5,j6⟩,hcm⟩:=hr2 c cs hroom;refine ⟨.returned (.bool true),w',?_,hcm⟩;let A1:Nat->Prop:=fun b=>A0 b\/A3 b;have hsz:=j4.size;have heap:∀b,b<w.heap.size->¬A0 b\/Kb b->w'.heap[b]? =w.heap[b]? :=fun b hb ha=>j5 b hb (ha.elim (fun ha=>.inl fun h=>ha (q3 b h)) .inr);have hA1:∀b,A1 b->A0 b\/w.heap.size<=b:=by
      rintro b (h | h)
      .exact .inl h
      .rcases j3 b h with h | h
       .exact .inl (q3 b h)
       .exact .inr h
     have hlv:∀b,Lv μ H' b->b<w.heap.size/\¬A0 b:=by
      rintro b ⟨id,o',n',c',hl,hm⟩;have:=S2.out id b o' n' c' (xy hl) hm;exact ⟨this.2,this.1⟩
     have hav:∀b,b<w.heap.size->¬Av A0 μ H' b->w'.heap[b]? =w.heap[b]? /\¬Av A1 μ H' b:=by
      intro b hb hA;refine ⟨heap b hb ((Classical.em (Kb b)).elim .inr fun hk=>.inl fun h=>hA (.inl ⟨h,hk⟩)),?_⟩;rintro (⟨h,hk⟩ | h)
      .rcases hA1 b h with h | h
       .exact hA (.inl ⟨h,hk⟩)
       .omega
      .exact hA (.inr h)
     have repm:∀ {p:zj E}{v:Value},Rp E A0 μ H' w p v->Rp E A1 μ H' w' p v:=fun h=>h.mono hsz hav (fun id hu=>⟨hu,rfl⟩);have repTm:∀ {τ:Ty}{v:Value}{x:Den E.T τ},yz E w (Av A0 μ H') τ v x->yz E w' (Av A1 μ H') τ v x:=fun h=>h.mono hsz hav;have own:∀id,xG (zn H' id)=true->ZY (zn H' id)=true:=by
      intro id hm;have hlt:=wu (yA hm);have hg:zn H' id=H'[id]:=by unfold zn;rw [zBn hlt];rfl
      have:=zBL.1 hown _ (zBU hlt);rw [hg] at hm ⊢;cases hB:H'[id]<;>simp_all [xG,ZY]
     have keep:∀id b o n c,xG (zn H' id)=true->μ id= .blk b o n c->w'.heap[b]? =w.heap[b]? :=by
      intro id b o' n' c' hm hμ;exact heap b (xX.lt (S2.ok id) hm hμ) (.inl (S2.out id b o' n' c' (own id hm) hμ).1)
     have sim:z9 A1 μ H' w':=by
      refine ⟨fun id=>?_,S2.inj,fun id b o' n' c' ho hμ=>?_⟩
      .have r:=S2.ok id;have hk':=keep id;generalize μ id=l at r hk';generalize zn H' id=B at r hk';cases B with
       | free=>trivial
       | dead=>trivial
       | box wr cs =>
        obtain ⟨b,len,cap,c,hl,hbox,hsz',hr⟩:=r;exact ⟨b,len,cap,c,hl,hbox.keep (hk' b 0 len cap rfl hl),hsz',fun j hj=>⟨repm (hr j hj).1,(hr j hj).2⟩⟩
       | row wr e xs =>
        rcases r with ⟨b,off,cap,c,vs,hl,hbox,h1,h2,h3,h4⟩ | ⟨h1,a,h2⟩
        .exact .inl ⟨b,off,cap,c,vs,hl,hbox.keep (hk' b off xs.length cap rfl hl),h1,h2,h3,fun i hi=>repTm (h4 i hi)⟩
        .exact .inr ⟨h1,a,h2⟩
       | rowh e xs n' k =>
        obtain ⟨b,off,cap,c,vs,hl,hbox,h1,h2,h3,h4,h5,h6⟩:=r;exact ⟨b,off,cap,c,vs,hl,hbox.keep (hk' b off xs.length cap rfl hl),h1,h2,h3,h4,fun i hi hn=>repTm (h5 i hi hn),repm h6⟩
       | map wr es =>
        obtain ⟨b,ms,clock,hl,hm,hsz',hr⟩:=r;exact ⟨b,ms,clock,hl,(hk' b 0 0 0 rfl hl).trans hm,hsz',fun j hj=>⟨repm (hr j hj).1,repm (hr j hj).2⟩⟩
      .have:=S2.out id b o' n' c' ho hμ;refine ⟨fun h=>?_,by omega⟩;rcases hA1 b h with h | h
       .exact this.1 h
       .omega
     have h0:=S3.rep 0 _ q1;have S4:St G W0 yk A1 μ H' w' (env'.set 0 (.yld k.y ((tr2:Int)+1))) a:=by
      refine ⟨⟨?_,fun g hg=>⟨.inl (S3.wd.glob g hg).1,j6 g hg⟩,fun b hb=>.inl (S3.wd.kb b hb)⟩,sim,by rw [S3.size];simp,fun t p hp=>?_,?_,S3.nomark,fun k' hk'=>?_⟩
      .rintro b (h | h)
       .have:=S3.wd.low b h;omega
       .exact k.low j1 b h
      .rw [zBZ] at hp;split at hp
       .rename_i e;subst e;split at hp
        .injection hp with hp;subst hp;generalize a.tmps.getD 0 undef=v0 at h0 ⊢;cases h0;exact .yld _ _
        .cases hp
       .exact repm (S3.rep t p hp)
      .rw [S3.nomark hys];exact ⟨fun d hd=>by simp at hd,List.Pairwise.nil⟩
      .rw [hyk] at hk';cases hk';have hlt:0<env'.length:=(zBt.1 q1).1;refine ⟨⟨tr2+1,A3,by simp [hlt],j1,fun b hb=>.inr hb⟩,fun t m i ht=>?_⟩;rw [zBZ] at ht;split at ht
       .simp only [hlt,if_true,Option.some.injEq,zj.yld.injEq] at ht;exact ht.1.symm
       .exact q5 t m i ht
     refine hN _ _ _ _ _ _ (S4.put' (.v _ _ _ (.bool true)) o.dst hd (fun k _ m i hm=>by cases hm)) (T.mid.trans ⟨j4,fun h=>?_,fun _ _ h=>h,fun _ h=>.inl h,fun _ hu=>⟨hu,rfl⟩⟩) (fun h=>by rw [hyk] at h;cases h) (by rw [VP];simpa using hlen) hk;rw [hys] at h;cases h
    .refine zm5 hP hT hS S' h ?_;intro p v H' μ' w' hp T S2 hk;exact hN _ _ _ _ _ _ ((S'.trans T S2).put' (zuL hp) o.dst hd (fun k _ m i hm=>zk hm zwL)) T.mid (fun _=>rfl) (by rw [VP,hlen]) hk
end
end Go.Pe
namespace Go.Pe
variable {E:yG}
theorem zxJ {tab:List (Nat×TI)}{mv:Bool}{fresh:Nat}{ρ ρ':Operand->zj E}(o:Op) (h:∀x∈o.operands,ρ x=ρ' x):opD tab mv fresh ρ o=opD tab mv fresh ρ' o:=by
 have pairs:∀ps:Array (Nat×Operand),(∀x∈(ps.toList.map (·.2)).toArray,ρ x=ρ' x)->(ps.toList.map fun p=>(p.1,ρ p.2))=ps.toList.map fun p=>(p.1,ρ' p.2):=fun ps hp =>
  List.map_congr_left fun p hm=>by rw [hp p.2 (by simpa using ⟨p.1,(by simpa using hm)⟩)]
 have vals:∀ps:Array Operand,(∀x∈ps,ρ x=ρ' x)->ps.toList.map ρ=ps.toList.map ρ':=fun ps hp=>List.map_congr_left fun p hm=>hp p (by simpa using hm);cases o with
 | build t ps=>simp only [Op.operands] at h;simp only [opD,pairs ps h]
 | buildSlice t n ps=>simp only [Op.operands] at h;simp only [opD,pairs ps h]
 | makeFunc fn first captured =>
  simp only [Op.operands] at h;cases fn<;>simp only [opD];rw [vals captured fun x hx=>h x (by simp [hx]),vals first fun x hx=>h x (by simp [hx])]
 | slice t x lo hi mx =>
  simp only [Op.operands] at h;have hx:=h x (by simp);cases lo<;>cases hi<;>cases mx<;>simp_all [opD]
 | call c =>
  obtain ⟨callee,args,argTypes⟩:=c;simp only [Op.operands] at h;have hargs:∀x∈args,ρ x=ρ' x:=fun x hx=>h x (by simp [Call.operands,hx]);have hv:=vals args hargs;cases callee with
  | value f=>rfl
  | invoke r m=>rfl
  | builtin b =>
   cases b<;>first | rfl | (simp only [opD,hv];done) | skip
   .simp only [opD];have:∀x∈args.toList,ρ x=ρ' x:=fun x hx=>hargs x (by simpa using hx);revert this;generalize args.toList=l;intro this;generalize argTypes.toList=tl;rcases tl with _ | ⟨t1,_ | ⟨t2,_ | ⟨t3,tl⟩⟩⟩
    .rfl
    .rfl
    .rcases l with _ | ⟨x,_ | ⟨y,_ | ⟨z,l⟩⟩⟩
     .rfl
     .rfl
     .simp only [this x (by simp),this y (by simp)]
     .rfl
    .rfl
   .simp only [opD];have:∀x∈args.toList,ρ x=ρ' x:=fun x hx=>hargs x (by simpa using hx);revert this;generalize args.toList=l;intro this;generalize argTypes.toList=tl;rcases tl with _ | ⟨t1,_ | ⟨t2,_ | ⟨t3,tl⟩⟩⟩
    .rfl
    .rfl
    .rcases l with _ | ⟨x,_ | ⟨y,_ | ⟨z,l⟩⟩⟩
     .rfl
     .rfl
     .simp only [this x (by simp),this y (by simp)]
     .rfl
    .rfl
   .simp only [opD];cases e1:args[0]? with
    | none=>cases argTypes[0]? <;>rfl
    | some x =>
     have:x∈args:=Array.mem_of_getElem? e1;cases argTypes[0]? with
     | none=>rfl
     | some t=>simp only [hargs x this]
 | makeMap t r=>cases r<;>rfl
 | _=>simp only [Op.operands] at h;first | rfl | (simp only [opD];simp_all;done) | simp_all [opD]
theorem zjM {env env':List (zj E)}(o:Op) (h:∀x∈o.operands,u4 env x=u4 env' x):Vf env o=Vf env' o:=by
 unfold Vf;split
 .rename_i f args argTypes;have hf:u4 env f=u4 env' f:=h f (by simp [Op.operands,Call.operands]);have ha:args.toList.map (u4 env)=args.toList.map (u4 env'):=List.map_congr_left fun p hm=>h p (by simp [Op.operands,Call.operands];exact .inr (by simpa using hm));rw [hf];simp only [ha]
 .rfl
theorem zaN {α R:Type}{r:R}:∀(d:Dec E α) {H:List (Blk E)}{rs0 ws0:List Nat}{K:α->List (Blk E)->List Nat->List Nat->Option R},d.cpsL H rs0 ws0 K=some r ->
  ∃a H' rs ws,K a H' rs ws=some r/\(∀i∈rs0,i∈rs)/\(∀i∈ws0,i∈ws)/\H'.length=H.length/\(∀id,id∉ws->zn H' id=zn H id) /\
   ∀H1:List (Blk E),H1.length=H.length->(∀id,id∈rs\/id∈ws->zn H1 id=zn H id) ->
    ∃H1',(∀ {R2:Type}(K2:α->List (Blk E)->Option R2),d.cps H1 K2=K2 a H1')/\H1'.length=H1.length/\(∀id,id∈rs\/id∈ws->zn H1' id=zn H' id)/\∀id,id∉ws->zn H1' id=zn H1 id
 | .ret a,H,rs0,ws0,K,h=>⟨a,H,rs0,ws0,h,fun _ h=>h,fun _ h=>h,rfl,fun _ _=>rfl,fun H1 hl hg=>⟨H1,fun _=>rfl,rfl,hg,fun _ _=>rfl⟩⟩
 | .fail,H,rs0,ws0,K,h=>by simp [Dec.cpsL] at h
 | .br b t e,H,rs0,ws0,K,h=>by
  cases b with
  | true =>
   obtain ⟨a,H',rs,ws,h1,h2,h3,h4,h5,h6⟩:=zaN t (K:=K) (by simpa [Dec.cpsL] using h);exact ⟨a,H',rs,ws,h1,h2,h3,h4,h5,fun H1 hl hg=>by
    obtain ⟨H1',k1,k2⟩:=h6 H1 hl hg;exact ⟨H1',fun K2=>by simpa [Dec.cps] using k1 K2,k2⟩⟩
  | false =>
   obtain ⟨a,H',rs,ws,h1,h2,h3,h4,h5,h6⟩:=zaN e (K:=K) (by simpa [Dec.cpsL] using h);exact ⟨a,H',rs,ws,h1,h2,h3,h4,h5,fun H1 hl hg=>by
    obtain ⟨H1',k1,k2⟩:=h6 H1 hl hg;exact ⟨H1',fun K2=>by simpa [Dec.cps] using k1 K2,k2⟩⟩
 | .any k,H,rs0,ws0,K,h=>by simp [Dec.cpsL] at h
 | .opt β o k,H,rs0,ws0,K,h=>by
  simp only [Dec.cpsL,zBw] at h;obtain ⟨x,hx,h⟩:=h;obtain ⟨a,H',rs,ws,h1,h2,h3,h4,h5,h6⟩:=zaN (k x) h;exact ⟨a,H',rs,ws,h1,h2,h3,h4,h5,fun H1 hl hg=>by
   obtain ⟨H1',k1,k2⟩:=h6 H1 hl hg;exact ⟨H1',fun K2=>by simp only [Dec.cps,hx,zBk];exact k1 K2,k2⟩⟩
 | .rd id k,H,rs0,ws0,K,h=>by
  simp only [Dec.cpsL] at h;obtain ⟨a,H',rs,ws,h1,h2,h3,h4,h5,h6⟩:=zaN (k (zn H id)) h;refine ⟨a,H',rs,ws,h1,fun i hi=>h2 i (zBr _ hi),h3,h4,h5,fun H1 hl hg=>?_⟩;obtain ⟨H1',k1,k2⟩:=h6 H1 hl hg;exact ⟨H1',fun K2=>by simp only [Dec.cps,hg id (.inl (h2 id (zBx ..)))];exact k1 K2,k2⟩
 | .wr id b k,H,rs0,ws0,K,h=>by
  simp only [Dec.cpsL] at h;cases hlt:Nat.blt id H.length with
  | false=>simp [hlt] at h
  | true =>
   simp only [hlt,zI] at h;have hlt':id<H.length:=zB0 hlt;obtain ⟨a,H',rs,ws,h1,h2,h3,h4,h5,h6⟩:=zaN k h;have hid:id∈ws:=h3 id (zBx ..);refine ⟨a,H',rs,ws,h1,h2,fun i hi=>h3 i (zBr _ hi),by rw [h4];simp,fun i hi=>?_,fun H1 hl hg=>?_⟩
   .rw [h5 i hi,ya _ _ (fun e:id=i=>hi (by rw [<-e];exact hid))]
   .obtain ⟨H1',k1,k2,k3,k4⟩:=h6 (H1.set id b) (by simp [hl]) (fun i hi=>by
     rw [zao _ _ _ _ (by rw [hl];exact hlt'),zao _ _ _ _ hlt'];split
     .rfl
     .exact hg i hi)
    refine ⟨H1',fun K2=>?_,by rw [k2];simp,k3,fun i hi=>?_⟩
    .simp only [Dec.cps];rw [zqf (by rw [hl];exact hlt')];exact k1 K2
    .rw [k4 i hi,ya _ _ (fun e:id=i=>hi (by rw [<-e];exact hid))]
theorem zye:∀(k:SK) (p:zj E) (s s':Ren×List (zj E)),xM k p s=some s'->s.1.le s'.1:=by
 have bnd:∀ {ρ:Ren}{j:Nat}{x:Option Nat}{l:List (zj E)}{s':Ren×List (zj E)},(ρ.bind j x).map (fun ρ=>(ρ,l))=some s'->ρ.le s'.1:=by
  intro ρ j x l s' h;simp only [zBD] at h;obtain ⟨ρ',h1,rfl⟩:=h;exact (Ren.bind_some h1).1
 intro k;refine SK.rec (motive_1:=fun k=>∀(p:zj E) (s s':Ren×List (zj E)),xM k p s=some s'->s.1.le s'.1)
  (motive_2:=fun ks=>∀(ps:List (zj E)) (s s':Ren×List (zj E)),Zt ks ps s=some s'->s.1.le s'.1) ?_ ?_ ?_ ?_ ?_ ?_ ?_ ?_ ?_ ?_ ?_ ?_ ?_ ?_ ?_ k
 .intro p s s' h;simp only [xM,Option.some.injEq] at h;subst h;exact Ren.le_refl _
 .intro τ p s s' h;simp only [xM,Option.some.injEq] at h;subst h;exact Ren.le_refl _
 .intro j p s s' h;cases p<;>simp only [xM,reduceCtorEq] at h;split at h
  .exact bnd h
  .cases h
 .intro j p s s' h;cases p<;>simp only [xM,reduceCtorEq] at h<;>exact bnd h
 .intro f ks ih p s s' h;cases p<;>simp only [xM,reduceCtorEq] at h;split at h
  .exact ih _ _ _ h
  .cases h
 .intro j n p s s' h;cases p<;>simp only [xM,reduceCtorEq] at h;split at h
  .exact bnd h
  .cases h
 .intro p s s' h;cases p<;>simp only [xM,reduceCtorEq,Option.some.injEq] at h;subst h;exact Ren.le_refl _
 .intro p s s' h;cases p<;>simp only [xM,reduceCtorEq,Option.some.injEq] at h;subst h;exact Ren.le_refl _
 .intro fs p s s' h;cases p<;>simp only [xM,reduceCtorEq] at h;split at h
  .simp only [Option.some.injEq] at h;subst h;exact Ren.le_refl _
  .cases h
 .intro j p s s' h;cases p<;>simp only [xM,reduceCtorEq] at h<;>exact bnd h
 .intro p s s' h;cases p<;>simp only [xM,reduceCtorEq] at h;simp only [Option.some.injEq] at h;subst h;exact Ren.le_refl _
 .intro e p s s' h;cases p<;>simp only [xM,reduceCtorEq] at h;split at h
  .simp only [Option.some.injEq] at h;subst h;exact Ren.le_refl _
  .cases h
 .intro e j p s s' h;cases p<;>simp only [xM,reduceCtorEq] at h;split at h
  .exact bnd h
  .cases h
 .intro ps s s' h;cases ps<;>simp only [Zt,reduceCtorEq,Option.some.injEq] at h;subst h;exact Ren.le_refl _
 .intro k ks h1 h2 ps s s' h;cases ps with
  | nil=>simp [Zt] at h
  | cons p ps =>
   simp only [Zt] at h;split at h
   .rename_i s1 e;exact (h1 _ _ _ e).trans (h2 _ _ _ h)
   .cases h
theorem zlX:∀(ks:List SK) (ps:List (zj E)) (s s':Ren×List (zj E)),Zt ks ps s=some s'->s.1.le s'.1
 | [],ps,s,s',h=>by
  cases ps<;>simp only [Zt,reduceCtorEq,Option.some.injEq] at h;subst h;exact Ren.le_refl _
 | k::ks,[],s,s',h=>by simp [Zt] at h
 | k::ks,p::ps,s,s',h=>by
  simp only [Zt] at h;split at h
  .rename_i s1 e;exact (zye _ _ _ _ e).trans (zlX _ _ _ _ h)
  .cases h
end Go.Pe
namespace Go.Pe
variable {E:yG}{H H1:List (Blk E)}
theorem VW:∀(bs:List BK) (j:Nat) (s s':Ren×List (zj E)),v9 H bs j s=some s'->s.1.le s'.1
 | [],j,s,s',h=>by simp only [v9,Option.some.injEq] at h;subst h;exact Ren.le_refl _
 | .gone::bs,j,s,s',h=>by simp only [v9] at h;exact VW bs _ _ _ h
 | .box wr ks::bs,j,s,s',h=>by
  simp only [v9] at h;split at h
  .split at h
   .rename_i e2 _;cases e2;split at h;rotate_left
    .cases h
    split at h;rotate_left
    .cases h
    rename_i s1 h1;exact (zlX _ _ _ _ h1).trans (VW bs _ _ _ h)
   .rename_i e2 _;cases e2
   .rename_i e2 _;cases e2
   .cases h
  .cases h
  .cases h
 | .map ek::bs,j,s,s',h=>by
  simp only [v9] at h;split at h
  .split at h
   .rename_i e2 _;cases e2
   .rename_i e2 _;cases e2
   .rename_i e2 _;cases e2;split at h;rotate_left
    .cases h
    split at h;rotate_left
    .cases h
    rename_i s1 h1;exact (zlX _ _ _ _ h1).trans (VW bs _ _ _ h)
   .cases h
  .cases h
  .cases h
 | .row wr e::bs,j,s,s',h=>by
  simp only [v9] at h;split at h
  .split at h
   .rename_i e2 _;cases e2
   .rename_i e2 _;cases e2;split at h;rotate_left
    .cases h
    split at h;rotate_left
    .cases h
    have:=VW bs _ _ _ h;exact this
   .rename_i e2 _;cases e2
   .cases h
  .have:=VW bs _ _ _ h;exact this
  .cases h
theorem VR:∀(bs:List BK) (j:Nat) (s s':Ren×List (zj E)),v9 H bs j s=some s'->(∀id∈s'.1.ids,zn H1 id=zn H id)->v9 H1 bs j s=some s'
 | [],j,s,s',h,hg=>h
 | .gone::bs,j,s,s',h,hg=>by simp only [v9] at h ⊢;exact VR bs _ _ _ h hg
 | .box wr ks::bs,j,s,s',h,hg=>by
  have hle:=VW _ _ _ _ h;simp only [v9] at h ⊢;split at h
  .rename_i id hget;rw [hg id (Ren.get_ids (hle _ _ hget))];split at h
   .rename_i e2 hB;cases e2;split at h;rotate_left
    .cases h
    rename_i hc;rw [zb hc];split at h;rotate_left
    .cases h
    rename_i s1 h1;exact VR bs _ _ _ h hg
   .rename_i e2 _;cases e2
   .rename_i e2 _;cases e2
   .cases h
  .cases h
  .cases h
 | .map ek::bs,j,s,s',h,hg=>by
  have hle:=VW _ _ _ _ h;simp only [v9] at h ⊢;split at h
  .rename_i id hget;rw [hg id (Ren.get_ids (hle _ _ hget))];split at h
   .rename_i e2 _;cases e2
   .rename_i e2 _;cases e2
   .rename_i e2 hB;cases e2;split at h;rotate_left
    .cases h
    rename_i hc;rw [zb hc];split at h;rotate_left
    .cases h
    rename_i s1 h1;exact VR bs _ _ _ h hg
   .cases h
  .cases h
  .cases h
 | .row wr e::bs,j,s,s',h,hg=>by
  have hle:=VW _ _ _ _ h;simp only [v9] at h ⊢;split at h
  .rename_i id hget;rw [hg id (Ren.get_ids (hle _ _ hget))];split at h
   .rename_i e2 _;cases e2
   .rename_i e2 hB;cases e2;split at h;rotate_left
    .cases h
    rename_i hc;rw [zb hc];split at h;rotate_left
    .cases h
    rename_i l hl;exact VR bs _ _ _ h hg
   .rename_i e2 _;cases e2
   .cases h
  .exact VR bs _ _ _ h hg
  .cases h
theorem zmd {τ:Ty}{p:zj E}{x:Den E.T τ}{ids:List Nat}(h:vz τ p H=some (x,ids)) (hg:∀id∈ids,zn H1 id=zn H id):vz τ p H1=some (x,ids):=by
 cases p with
 | own id =>
  simp only [vz] at h ⊢;split at h
  .cases hB:zn H id with
   | row wr e l =>
    simp only [hB] at h;have:ids=[id]:=by
     simp only [zBw] at h;obtain ⟨z,_,he⟩:=h;simp at he;exact he.2.symm
    subst this;rw [hg id (by simp),hB];exact h
   | _=>simp [hB] at h
  .cases h
 | _=>exact h
theorem zjf:∀ {ts:List Ty}{ps:List (zj E)}{x:HL E.T ts}{ids:List Nat},wV ts ps H=some (x,ids)->(∀id∈ids,zn H1 id=zn H id)->wV ts ps H1=some (x,ids)
 | [],[],_,_,h,_=>h
 | [],_::_,_,_,h,_=>by simp [wV] at h
 | _::_,[],_,_,h,_=>by simp [wV] at h
 | t::ts,p::ps,x,ids,h,hg=>by
  simp only [wV,zBw] at h ⊢;obtain ⟨⟨a1,a2⟩,ha,⟨b1,b2⟩,hb,he⟩:=h;simp at he;obtain ⟨rfl,rfl⟩:=he;exact ⟨_,zmd ha (fun i hi=>hg i (by simp [hi])),_,zjf hb (fun i hi=>hg i (by simp [hi])),rfl⟩
theorem zxx {τ:Ty}{p:zj E}{x:Den E.T τ}{ids:List Nat}(h:toT τ p H=some (x,ids)) (hg:∀id∈ids,zn H1 id=zn H id):toT τ p H1=some (x,ids):=by
 unfold toT at h ⊢;split at h
 .rename_i cs n;simp only [zBw] at h ⊢;obtain ⟨⟨x,ids'⟩,hx,he⟩:=h;simp at he;obtain ⟨rfl,rfl⟩:=he;exact ⟨_,zjf hx hg,rfl⟩
 .rename_i hne;exact zmd h hg
theorem zpf:∀ {ts:List Ty}{ps:List (zj E)}{x:HL E.T ts}{ids:List Nat},X1 ts ps H=some (x,ids)->(∀id∈ids,zn H1 id=zn H id)->X1 ts ps H1=some (x,ids)
 | [],[],_,_,h,_=>h
 | [],_::_,_,_,h,_=>by simp [X1] at h
 | _::_,[],_,_,h,_=>by simp [X1] at h
 | t::ts,p::ps,x,ids,h,hg=>by
  simp only [X1,zBw] at h ⊢;obtain ⟨⟨a1,a2⟩,ha,⟨b1,b2⟩,hb,he⟩:=h;simp at he;obtain ⟨rfl,rfl⟩:=he;exact ⟨_,zxx ha (fun i hi=>hg i (by simp [hi])),_,zpf hb (fun i hi=>hg i (by simp [hi])),rfl⟩
theorem zt8 {ρ0 ρ:Ren}{Sh:wn}{ps:List (zj E)}{x:HL E.T Sh.holes}{fz:List Nat}(h:Wc ρ0 Sh ps H=some (x,ρ,fz)) (hg:∀id,id∈ρ.ids\/id∈fz->zn H1 id=zn H id) :
  Wc ρ0 Sh ps H1=some (x,ρ,fz):=by
 unfold Wc at h ⊢;split at h;rotate_left
 .cases h
 rename_i s h1;split at h;rotate_left
 .cases h
 rename_i s' h2;split at h;rotate_left
 .cases h
 rename_i x' h3;split at h;rotate_left
 .cases h
 rename_i hc;simp only [Option.some.injEq,Prod.mk.injEq] at h;obtain ⟨rfl,rfl,rfl⟩:=h;rw [VR _ _ _ _ h2 (fun id hid=>hg id (.inl hid))];simp only;rw [zpf (x:=x'.1) (ids:=x'.2) h3 (fun id hid=>hg id (.inr hid))];simp only;rw [zb hc]
theorem zp8:∀(fz:List Nat) (H:List (Blk E)),(upd H fz).length=H.length/\∀id,zn (upd H fz) id=if id∈fz then (if id<H.length then frz (zn H id) else zn H id) else zn H id
 | [],H=>⟨rfl,fun id=>by simp [upd]⟩
 | a::fz,H=>by
  obtain ⟨h1,h2⟩:=zp8 fz (H.set a (frz (zn H a)));refine ⟨by simp only [upd];rw [h1];simp,fun id=>?_⟩;simp only [upd];rw [h2 id];have ff:∀b:Blk E,frz (frz b)=frz b:=fun b=>by cases b<;>rfl
  by_cases ha:a<H.length
  .rw [zao _ _ _ _ ha];by_cases e:a=id
   .subst e;simp [ha,ff]
   .have e':id≠a:=fun h=>e h.symm;simp [e,e']
  .have:H.set a (frz (zn H a))=H:=List.set_eq_of_length_le (by omega);rw [this];by_cases e:id=a
   .subst e;simp [ha]
   .simp [e]
theorem zef:∀(n fresh:Nat),Wb H fresh n=true->H1.length=H.length->(∀t,t<n->zn H1 (fresh+t)=zn H (fresh+t))->Wb H1 fresh n=true
 | 0,_,_,_,_=>rfl
 | n+1,fresh,h,hl,hg=>by
  simp only [Wb,zBl] at h ⊢;have h0:=hg 0 (by omega);simp only [zCd] at h0;rw [h0,hl];exact ⟨h.1,zef n (fresh+1) h.2 hl (fun t ht=>by rw [show fresh+1+t=fresh+(t+1) by omega];exact hg (t+1) (by omega))⟩
end Go.Pe
namespace Go.Pe
variable {E:yG}
theorem zs6 {H H1:List (Blk E)}(hl:H1.length=H.length) (a:Nat) (b:Blk E):zn (H1.set a b) a=zn (H.set a b) a:=by
 by_cases h:a<H.length
 .rw [yr _ _ _ h,yr _ _ _ (by rw [hl];exact h)]
 .rw [zuu (by simp;omega),zuu (by simp;omega)]
theorem zls {fresh:Nat}:∀(bs:List (Blk E)) (t:Nat) (H H1:List (Blk E)),H1.length=H.length->∀id,
  ((∃k,k<bs.length/\id=fresh+t+k)->zn (VB fresh bs t H1) id=zn (VB fresh bs t H) id) /\
  ((¬ ∃k,k<bs.length/\id=fresh+t+k)->zn (VB fresh bs t H1) id=zn H1 id/\zn (VB fresh bs t H) id=zn H id)
 | [],t,H,H1,hl,id=>⟨fun ⟨k,hk,_⟩=>by simp at hk,fun _=>⟨rfl,rfl⟩⟩
 | b::bs,t,H,H1,hl,id=>by
  have ih:=zls (fresh:=fresh) bs (t+1) (H.set (fresh+t) b) (H1.set (fresh+t) b) (by simp [hl]) id;simp only [VB];constructor
  .rintro ⟨k,hk,rfl⟩;cases k with
   | zero =>
    have h:=ih.2 (fun ⟨k,_,e⟩=>by omega);rw [h.1,h.2];exact zs6 hl _ _
   | succ k=>exact ih.1 ⟨k,by simpa using hk,by omega⟩
  .intro hn;have h:=ih.2 (fun ⟨k,hk,e⟩=>hn ⟨k+1,by simpa using hk,by omega⟩);have hne:fresh+t≠id:=fun e=>hn ⟨0,by simp,by omega⟩;rw [h.1,h.2,ya _ _ hne,ya _ _ hne];exact ⟨rfl,rfl⟩
theorem zbC {ρ:Ren}{fresh:Nat}:∀(ks os:List BK) (bs:List (Blk E)) (j:Nat) (H H1 H':List (Blk E)),H1.length=H.length->wE ρ fresh ks os bs j H=some H' ->
  ∃H1',wE ρ fresh ks os bs j H1=some H1'/\H1'.length=H1.length/\H'.length=H.length/\∀id,
   ((id∈Zm ρ ks j\/∃t,ks.length+t<bs.length/\id=fresh+t)->zn H1' id=zn H' id) /\
   (¬(id∈Zm ρ ks j\/∃t,ks.length+t<bs.length/\id=fresh+t)->zn H1' id=zn H1 id/\zn H' id=zn H id)
 | [],os,bs,j,H,H1,H',hl,h=>by
  simp only [wE,Option.some.injEq] at h;subst h;refine ⟨_,rfl,zgd _ _ _,zgd _ _ _,fun id=>?_⟩;have:=zls (fresh:=fresh) bs 0 H H1 hl id;constructor
  .rintro (h | ⟨t,ht,e⟩)
   .simp [Zm] at h
   .exact this.1 ⟨t,by simpa using ht,by omega⟩
  .intro hn;exact this.2 (fun ⟨k,hk,e⟩=>hn (.inr ⟨k,by simpa using hk,by omega⟩))
 | k::ks,os,bs,j,H,H1,H',hl,h=>by
  have set_:∀(os':List BK) (b:Blk E) (bs':List (Blk E)) (id0:Nat) (B:Blk E),bs=b::bs'->Zm ρ (k::ks) j=[id0]++Zm ρ ks (j+1)->wE ρ fresh ks os' bs' (j+1) (H.set id0 B)=some H' ->
    ∃H1',wE ρ fresh ks os' bs' (j+1) (H1.set id0 B)=some H1'/\H1'.length=H1.length/\H'.length=H.length/\∀id,
     ((id∈Zm ρ (k::ks) j\/∃t,(k::ks).length+t<bs.length/\id=fresh+t)->zn H1' id=zn H' id) /\
     (¬(id∈Zm ρ (k::ks) j\/∃t,(k::ks).length+t<bs.length/\id=fresh+t)->zn H1' id=zn H1 id/\zn H' id=zn H id):=by
   intro os' b bs' id0 B eb ew hpb;subst eb;obtain ⟨H1',h1,h2,h3,h4⟩:=zbC ks os' bs' (j+1) _ (H1.set id0 B) H' (by simp [hl]) hpb;refine ⟨H1',h1,by rw [h2];simp,by rw [h3];simp,fun id=>?_⟩;rw [ew];have hh:=h4 id;constructor
   .intro hd;by_cases hin:id∈Zm ρ ks (j+1)\/∃t,ks.length+t<bs'.length/\id=fresh+t
    .exact hh.1 hin
    .have:id=id0:=by
      rcases hd with hd | ⟨t,ht,e⟩
      .rcases zBE.1 hd with hd | hd
       .simpa using hd
       .exact zk (.inl hd) hin
      .exact zk (.inr ⟨t,by simp at ht ⊢;omega,e⟩) hin
     subst this;rw [(hh.2 hin).1,(hh.2 hin).2];exact zs6 hl _ _
   .intro hn;have hin: ¬(id∈Zm ρ ks (j+1)\/∃t,ks.length+t<bs'.length/\id=fresh+t):=by
     rintro (h | ⟨t,ht,e⟩)
     .exact hn (.inl (zBJ _ h))
     .exact hn (.inr ⟨t,by simp at ht ⊢;omega,e⟩)
    have hne:id0≠id:=fun e=>hn (.inl (zBH _ (by simp [e])));rw [(hh.2 hin).1,(hh.2 hin).2,ya _ _ hne,ya _ _ hne];exact ⟨rfl,rfl⟩
  have same_:∀(os':List BK) (b:Blk E) (bs':List (Blk E)),bs=b::bs'->Zm ρ (k::ks) j=Zm ρ ks (j+1)->wE ρ fresh ks os' bs' (j+1) H=some H' ->
    ∃H1',wE ρ fresh ks os' bs' (j+1) H1=some H1'/\H1'.length=H1.length/\H'.length=H.length/\∀id,
     ((id∈Zm ρ (k::ks) j\/∃t,(k::ks).length+t<bs.length/\id=fresh+t)->zn H1' id=zn H' id) /\
     (¬(id∈Zm ρ (k::ks) j\/∃t,(k::ks).length+t<bs.length/\id=fresh+t)->zn H1' id=zn H1 id/\zn H' id=zn H id):=by
   intro os' b bs' eb ew hpb;subst eb;obtain ⟨H1',h1,h2,h3,h4⟩:=zbC ks os' bs' (j+1) H H1 H' hl hpb;refine ⟨H1',h1,h2,h3,fun id=>?_⟩;rw [ew];have e:(∃t,(k::ks).length+t<(b::bs').length/\id=fresh+t)↔∃t,ks.length+t<bs'.length/\id=fresh+t :=
    ⟨fun ⟨t,ht,e⟩=>⟨t,by simp at ht ⊢;omega,e⟩,fun ⟨t,ht,e⟩=>⟨t,by simp at ht ⊢;omega,e⟩⟩
   rw [e];exact h4 id
  unfold wE at h;split at h
  .rename_i e;cases e
  .rename_i e;cases e;split at h
   .rename_i id0 hg;obtain ⟨H1',h1,h2⟩:=set_ _ _ _ id0 _ rfl (by simp only [Zm,hg]) h;exact ⟨H1',by simp only [wE,hg];exact h1,h2⟩
   .cases h
  .rename_i e;cases e;obtain ⟨H1',h1,h2⟩:=same_ _ _ _ rfl rfl h;exact ⟨H1',by simp only [wE];exact h1,h2⟩
  .rename_i e;cases e;split at h
   .rename_i id0 hg;obtain ⟨H1',h1,h2⟩:=set_ _ _ _ id0 _ rfl (by simp only [Zm,hg]) h;exact ⟨H1',by simp only [wE,hg];exact h1,h2⟩
   .rename_i hg;obtain ⟨H1',h1,h2⟩:=same_ _ _ _ rfl (by simp only [Zm,hg,zBy]) h;exact ⟨H1',by simp only [wE,hg];exact h1,h2⟩
   .cases h
  .rename_i e;cases e;obtain ⟨H1',h1,h2⟩:=same_ _ _ _ rfl rfl h;exact ⟨H1',by simp only [wE];exact h1,h2⟩
  .rename_i e;cases e;obtain ⟨H1',h1,h2⟩:=same_ _ _ _ rfl rfl h;exact ⟨H1',by simp only [wE];exact h1,h2⟩
  .cases h
end Go.Pe
namespace Go.Pe
variable {E:yG}
theorem zpb {R:Type}{r:R}{s:zM E}{fresh:Nat}{args:List (zj E)}{H:List (Blk E)}{K:zj E->List (Blk E)->List Nat->List Nat->Option R}(h:zif s fresh args H K=some r) :
  ∃p H' rs ws,K p H' rs ws=some r/\H'.length=H.length/\(∀id,id∉ws->zn H' id=zn H id) /\
   ∀H1:List (Blk E),H1.length=H.length->(∀id,id∈rs\/id∈ws->zn H1 id=zn H id) ->
    ∃H1',(∀ {R2:Type}(K2:zj E->List (Blk E)->Option R2),zbK s fresh args H1 K2=K2 p H1')/\H1'.length=H1.length/\(∀id,id∈rs\/id∈ws->zn H1' id=zn H' id)/\∀id,id∉ws->zn H1' id=zn H1 id:=by
 unfold zif at h;split at h;rotate_left
 .cases h
 rename_i x ρ fz hrd;simp only [zBw] at h;obtain ⟨y,hy,h⟩:=h;split at h;rotate_left
 .cases h
 rename_i H' hpb;split at h;rotate_left
 .cases h
 rename_i hc;have hc':=hc;simp only [zBl] at hc;obtain ⟨u1,u2⟩:=zp8 fz H;have hbl:(yL (zbT ρ s.inn.blks.length fresh) s.out (HL.toP s.out.holes (s.go.to y))).2.length=s.out.blks.length:=zgm _ _;have hW:∀id,(id∈Zm ρ s.inn.blks 0\/∃t,s.inn.blks.length+t<(yL (zbT ρ s.inn.blks.length fresh) s.out (HL.toP s.out.holes (s.go.to y))).2.length/\id=fresh+t) ->
   id∈fz++Zm ρ s.inn.blks 0++List.range' fresh (s.out.blks.length-s.inn.blks.length):=by
  rintro id (h | ⟨t,ht,e⟩)
  .exact zBH _ (zBJ _ h)
  .rw [hbl] at ht;refine zBJ _ (List.mem_range'.2 ⟨t,by omega,by omega⟩)
 obtain ⟨_,_,_,l0,g0⟩:=zbC _ _ _ _ _ (upd H fz) H' rfl hpb;refine ⟨_,H',_,_,h,l0.trans u1,fun id hid=>?_,fun H1 hl hg=>?_⟩
 .have hnw: ¬(id∈Zm ρ s.inn.blks 0\/∃t,s.inn.blks.length+t<(yL (zbT ρ s.inn.blks.length fresh) s.out (HL.toP s.out.holes (s.go.to y))).2.length/\id=fresh+t):=fun h=>hid (hW id h);rw [((g0 id).2 hnw).2,u2 id,zd (fun h=>hid (zBH _ (zBH _ h)))]
 .obtain ⟨v1,v2⟩:=zp8 fz H1;obtain ⟨H1',k1,k2,k3,k4⟩:=zbC _ _ _ _ _ (upd H1 fz) H' (by rw [v1,u1,hl]) hpb;have hrd1:=zt8 (H1:=H1) hrd (fun id hid=>hg id (.inl (by
   rcases hid with h | h
   .exact zBH _ h
   .exact zBJ _ h)))
  have hfr:Wb H1 fresh (s.out.blks.length-s.inn.blks.length)=true:=zef _ _ hc.1 hl (fun t ht=>hg _ (.inr (zBJ _ (List.mem_range'.2 ⟨t,ht,by omega⟩))));have hupd:∀id,zn H1 id=zn H id->zn (upd H1 fz) id=zn (upd H fz) id:=fun id e=>by rw [v2,u2,e,hl]
  refine ⟨H1',fun K2=>?_,by rw [k2,v1],fun id hid=>?_,fun id hid=>?_⟩
  .unfold zbK;rw [hrd1];simp only [hy,zBk,k1];rw [zb (by rw [hfr,hc.2];rfl)]
  .by_cases hw:id∈Zm ρ s.inn.blks 0\/∃t,s.inn.blks.length+t<(yL (zbT ρ s.inn.blks.length fresh) s.out (HL.toP s.out.holes (s.go.to y))).2.length/\id=fresh+t
   .exact (k4 id).1 hw
   .rw [((k4 id).2 hw).1,((k4 id).2 hw).2];exact hupd id (hg id hid)
  .have hnw: ¬(id∈Zm ρ s.inn.blks 0\/∃t,s.inn.blks.length+t<(yL (zbT ρ s.inn.blks.length fresh) s.out (HL.toP s.out.holes (s.go.to y))).2.length/\id=fresh+t):=fun h=>hid (hW id h);rw [((k4 id).2 hnw).1,v2 id,zd (fun h=>hid (zBH _ (zBH _ h)))]
theorem zsd {R:Type}{r:R}{K:Bool->List (zj E)->Option R}{ops:Array Oper}{o:Oper}{env:List (zj E)}(h:Y7 ops o env K=some r) :
  ∃yes,K yes env=some r/\∀env1:List (zj E),(∀t∈looks ops o,env1[t]? =env[t]?)->∀ {R2:Type}(K2:Bool->List (zj E)->Option R2),Y7 ops o env1 K2=K2 yes env1:=by
 have setS:∀(e:List (zj E)) (d:Nat) (x:zj E),e[d]? =some x->e.set d x=e:=by
  intro e d x hx;obtain ⟨hlt,rfl⟩:=zBt.1 hx;exact List.set_getElem_self hlt
 unfold Y7 at h;split at h
 .rename_i hg;exact ⟨true,h,fun env1 _ R2 K2=>by simp only [Y7,hg]⟩
 .rename_i j want hg;split at h
  .cases h
  .rename_i d hd;have hlook:d∈looks ops o:=by
    unfold looks Oper.looksAt;refine zBJ _ ?_;rw [hg];simp [hd]
   have some_of:∀ {p:zj E},(env[d]?).getD .any=p->p≠ .any->env[d]? =some p:=by
    intro p hp hne;cases e:env[d]? with
    | none=>rw [e] at hp;exact zk hp.symm hne
    | some q=>rw [e] at hp;simp at hp;rw [hp]
   split at h
   .rename_i b hb;have hs:=some_of hb (by simp);cases b with
    | true =>
     simp only [zI] at h;rw [setS env d _ hs] at h;refine ⟨want,h,fun env1 ha R2 K2=>?_⟩;have h1:env1[d]? =some (.v .bool true):=(ha d hlook).trans hs;simp only [Y7,hg,hd,h1,zCg,zI];rw [setS env1 d _ h1]
    | false =>
     simp only [yg] at h;rw [setS env d _ hs] at h;refine ⟨!want,h,fun env1 ha R2 K2=>?_⟩;have h1:env1[d]? =some (.v .bool false):=(ha d hlook).trans hs;simp only [Y7,hg,hd,h1,zCg,yg];rw [setS env1 d _ h1]
   .rename_i hb;have hs:=some_of hb (by simp);refine ⟨false,h,fun env1 ha R2 K2=>?_⟩;have h1:env1[d]? =some .skip:=(ha d hlook).trans hs;simp only [Y7,hg,hd,h1,zCg]
   .cases h
theorem zt3 {C:Cfg E}{R:Type}{r:R}{rid i fresh spare:Nat}{ops:Array Oper}{o:Oper}{env:List (zj E)}{H:List (Blk E)}{K:List (zj E)->List (Blk E)->List Nat->List Nat->Option R}
  (hyl:C.yl=false) (h:zex C rid i fresh spare ops o env H K=some r) :
  ∃p H' rs ws,K (put env o.dst p) H' rs ws=some r/\H'.length=H.length/\(∀id,id∉ws->zn H' id=zn H id) /\
   ∀(env1:List (zj E)) (H1:List (Blk E)),(∀t∈looks ops o,env1[t]? =env[t]?)->H1.length=H.length->zn H1 spare=zn H spare->(∀id,id∈rs\/id∈ws->zn H1 id=zn H id) ->
    ∃H1',(∀ {R2:Type}(K2:List (zj E)->List (Blk E)->Option R2),zc6 C (zh0 _) rid i fresh spare ops o env1 H1 K2=K2 (put env1 o.dst p) H1')/\H1'.length=H1.length /\
     (∀id,id∈rs\/id∈ws->zn H1' id=zn H' id)/\∀id,id∉ws->zn H1' id=zn H1 id:=by
 unfold zex at h;obtain ⟨yes,h,hgd⟩:=zsd h;have evals:∀env1:List (zj E),(∀t∈looks ops o,env1[t]? =env[t]?)->∀x∈o.op.operands,u4 env1 x=u4 env x:=by
  intro env1 ha x hx;cases x with
  | tmp t =>
   have:t∈looks ops o:=zBH _ (List.mem_filterMap.2 ⟨.tmp t,by simpa using hx,rfl⟩);simp only [u4,ha t this]
  | _=>rfl
 cases yes with
 | false =>
  simp only [zBT,if_false] at h;refine ⟨.skip,H,[],[],h,rfl,fun _ _=>rfl,fun env1 H1 ha hl hsp hg=>⟨H1,fun K2=>?_,rfl,hg,fun _ _=>rfl⟩⟩;unfold zc6;rw [hgd env1 ha];simp
 | true =>
  simp only [if_true] at h;split at h
  .rename_i f args hcal;split at h;rotate_left
   .cases h
   rename_i kk hpick;split at h;rotate_left
   .cases h
   rename_i s hs;obtain ⟨p,H',rs,ws,h1,h2,h3,h4⟩:=zpb h;refine ⟨p,H',rs,ws,h1,h2,h3,fun env1 H1 ha hl hsp hg=>?_⟩;obtain ⟨H1',k1,k2⟩:=h4 H1 hl hg;refine ⟨H1',fun K2=>?_,k2⟩;unfold zc6;rw [hgd env1 ha];have hc:Vf env1 o.op=some (f,args):=(zjM o.op (evals env1 ha)).trans hcal;simp only [if_true,hyl,zBT,if_false,ziq,hc,hpick,zly,hs];exact k1 _
  .rename_i hcal;have fin:∀g,(if Nat.beq (UU o.op) 0=true then spare else fresh)=g->Wb H g 1=true->∀rs0,(∀H1:List (Blk E),H1.length=H.length->zn H1 spare=zn H spare->(∀id,id∈rs0->zn H1 id=zn H id)->Wb H1 g 1=true) ->
     (opD C.tab (C.mv rid i) g (u4 env) o.op).cpsL H rs0 [] (fun p H rs ws=>K (put env o.dst p) H rs ws)=some r ->
     ∃p H' rs ws,K (put env o.dst p) H' rs ws=some r/\H'.length=H.length/\(∀id,id∉ws->zn H' id=zn H id) /\
      ∀(env1:List (zj E)) (H1:List (Blk E)),(∀t∈looks ops o,env1[t]? =env[t]?)->H1.length=H.length->zn H1 spare=zn H spare->(∀id,id∈rs\/id∈ws->zn H1 id=zn H id) ->
       ∃H1',(∀ {R2:Type}(K2:List (zj E)->List (Blk E)->Option R2),zc6 C (zh0 _) rid i fresh spare ops o env1 H1 K2=K2 (put env1 o.dst p) H1')/\H1'.length=H1.length /\
        (∀id,id∈rs\/id∈ws->zn H1' id=zn H' id)/\∀id,id∉ws->zn H1' id=zn H1 id:=by
    intro g hgeq hfr rs0 hfr1 h;obtain ⟨p,H',rs,ws,h1,h2,_,h3,h4,h5⟩:=zaN _ h;refine ⟨p,H',rs,ws,h1,h3,h4,fun env1 H1 ha hl hsp hg=>?_⟩;obtain ⟨H1',k1,k2⟩:=h5 H1 hl hg;refine ⟨H1',fun K2=>?_,k2⟩;unfold zc6;rw [hgd env1 ha];have hc:Vf env1 o.op=none:=(zjM o.op (evals env1 ha)).trans hcal;have e:=zxJ (tab:=C.tab) (mv:=C.mv rid i) (fresh:=g) o.op (evals env1 ha);have hf1:=hfr1 H1 hl hsp (fun id hid=>hg id (.inl (h2 id hid)));simp only [if_true,hyl,zBT,if_false,ziq,hc,hgeq];rw [zb hf1,e];exact k1 _
   split at h
   .rename_i hn;split at h;rotate_left
    .cases h
    rename_i hfr;exact fin spare (zb hn) hfr [] (fun H1 hl hsp _=>zef 1 spare hfr hl (fun t ht=>by
     have:t=0:=by omega
     subst this;exact hsp)) h
   .rename_i hn;split at h;rotate_left
    .cases h
    rename_i hfr;exact fin fresh (zd hn) hfr [fresh] (fun H1 hl hsp hg=>zef 1 fresh hfr hl (fun t ht=>by
     have:t=0:=by omega
     subst this;exact hg fresh (by simp))) h
end Go.Pe
namespace Go.Pe
variable {E:yG}
structure zfx (E:yG) where
 p:zj E
 rs:List Nat
 ws:List Nat
structure Fr (C:Cfg E) (rid spare:Nat) (ops:Array Oper) (off:Nat->Nat) (i:Nat) (L:zfx E) (env:List (zj E)) (H H':List (Blk E)):Prop where
 len:H'.length=H.length
 out:∀id,id∉L.ws->zn H' id=zn H id
 run:∀o,ops[i]? =some o->∀(env1:List (zj E)) (H1:List (Blk E)),(∀t∈looks ops o,env1[t]? =env[t]?)->H1.length=H.length->zn H1 spare=zn H spare->(∀id,id∈L.rs\/id∈L.ws->zn H1 id=zn H id) ->
  ∃H1',(∀ {R2:Type}(K2:List (zj E)->List (Blk E)->Option R2),zc6 C (zh0 _) rid i (off i) spare ops o env1 H1 K2=K2 (put env1 o.dst L.p) H1')/\H1'.length=H1.length /\
   (∀id,id∈L.rs\/id∈L.ws->zn H1' id=zn H' id)/\∀id,id∉L.ws->zn H1' id=zn H1 id
section
variable {C:Cfg E}{rid spare:Nat}{ops:Array Oper}{off:Nat->Nat}
theorem Fr.move {i:Nat}{o:Oper}{L:zfx E}{env env1:List (zj E)}{H H' H1:List (Blk E)}(ho:ops[i]? =some o) (h:Fr C rid spare ops off i L env H H')
  (ha:∀t∈looks ops o,env1[t]? =env[t]?) (hl:H1.length=H.length) (hsp:zn H1 spare=zn H spare) (hg:∀id,id∈L.rs\/id∈L.ws->zn H1 id=zn H id) :
  ∃H1',Fr C rid spare ops off i L env1 H1 H1'/\∀id,id∈L.rs\/id∈L.ws->zn H1' id=zn H' id:=by
 obtain ⟨H1',_,k2,k3,k4⟩:=h.run o ho env1 H1 ha hl hsp hg;refine ⟨H1',⟨k2,k4,fun o' ho' env2 H2 ha2 hl2 hsp2 hg2=>?_⟩,k3⟩;rw [ho] at ho';injection ho' with ho';subst ho';obtain ⟨H2',m1,m2,m3,m4⟩:=h.run o ho env2 H2 (fun t ht=>(ha2 t ht).trans (ha t ht)) (hl2.trans hl) (hsp2.trans hsp) (fun id hid=>(hg2 id hid).trans (hg id hid));exact ⟨H2',m1,m2,fun id hid=>(m3 id hid).trans (k3 id hid).symm,m4⟩
theorem zoJ {env:List (zj E)}{d:Option Nat}{p:zj E}{t:Nat}(h:∀x,d=some x->x≠t):(put env d p)[t]? =env[t]? :=by
 cases d with
 | none=>rfl
 | some x=>exact zBI (h x rfl)
theorem zyU {env:List (zj E)}{d e:Option Nat}{p q:zj E}(h:∀x,d=some x->e≠some x):put (put env d p) e q=put (put env e q) d p:=by
 cases d with
 | none=>rfl
 | some x =>
  cases e with
  | none=>rfl
  | some y=>exact List.set_comm _ _ (fun e=>h x rfl (by rw [e]))
theorem zs3 {H H':List (Blk E)}(hl:H.length=H'.length) (h:∀id,zn H id=zn H' id):H=H':=by
 apply List.ext_getElem hl;intro i h1 h2;have:=h i;unfold zn at this;rw [zBn h1,zBn h2] at this;simpa using this
structure zvl (ops:Array Oper) (spare:Nat) (x y:Nat) (Lx Ly:zfx E):Prop where
 wr:∀id,id∈Lx.ws->id∉Ly.rs/\id∉Ly.ws
 rw':∀id,id∈Ly.ws->id∉Lx.rs/\id∉Lx.ws
 sx:spare∉Lx.ws
 sy:spare∉Ly.ws
 slots:∀ox oy,ops[x]? =some ox->ops[y]? =some oy->(∀d,ox.dst=some d->oy.dst≠some d)/\(∀d,ox.dst=some d->d∉looks ops oy)/\∀d,oy.dst=some d->d∉looks ops ox
theorem Fr.swap {x y:Nat}{ox oy:Oper}{Lx Ly:zfx E}{env:List (zj E)}{H Hx Hxy:List (Blk E)}(hx:ops[x]? =some ox) (hy:ops[y]? =some oy) (I:zvl ops spare x y Lx Ly)
  (fx:Fr C rid spare ops off x Lx env H Hx) (fy:Fr C rid spare ops off y Ly (put env ox.dst Lx.p) Hx Hxy) :
  ∃Hy,Fr C rid spare ops off y Ly env H Hy/\Fr C rid spare ops off x Lx (put env oy.dst Ly.p) Hy Hxy/\put (put env ox.dst Lx.p) oy.dst Ly.p=put (put env oy.dst Ly.p) ox.dst Lx.p:=by
 obtain ⟨s1,s2,s3⟩:=I.slots ox oy hx hy;obtain ⟨Hy,g1,g2⟩:=fy.move (env1:=env) (H1:=H) hy (fun t ht=>(zoJ (fun d hd e=>s2 d hd (e▸ht))).symm) fx.len.symm (fx.out spare I.sx).symm
  (fun id hid=>(fx.out id (fun hw=>by rcases hid with h | h;exact (I.wr id hw).1 h;exact (I.wr id hw).2 h)).symm)
 obtain ⟨Hyx,k1,k2⟩:=fx.move (env1:=put env oy.dst Ly.p) (H1:=Hy) hx (fun t ht=>zoJ (fun d hd e=>s3 d hd (e▸ht))) g1.len (g1.out spare I.sy)
  (fun id hid=>g1.out id (fun hw=>by rcases hid with h | h;exact (I.rw' id hw).1 h;exact (I.rw' id hw).2 h))
 have e:Hyx=Hxy:=by
  apply zs3
  .rw [k1.len,g1.len,fy.len,fx.len]
  .intro id;by_cases h1:id∈Lx.ws
   .rw [k2 id (.inr h1),fy.out id (I.wr id h1).2]
   .rw [k1.out id h1];by_cases h2:id∈Ly.ws
    .exact g2 id (.inr h2)
    .rw [g1.out id h2,fy.out id h2,fx.out id h1]
 subst e;exact ⟨Hy,g1,k1,zyU s1⟩
end
end Go.Pe
namespace Go.Pe
variable {E:yG}
section
variable {C:Cfg E}{rid spare:Nat}{ops:Array Oper}{off:Nat->Nat}{L:Nat->zfx E}
inductive zbb (C:Cfg E) (rid spare:Nat) (ops:Array Oper) (off:Nat->Nat) (L:Nat->zfx E) (env':List (zj E)) (H':List (Blk E)):List Nat->List (zj E)->List (Blk E)->Prop
 | nil:zbb C rid spare ops off L env' H' [] env' H'
 | cons (i:Nat) (l:List Nat) (o:Oper) (env:List (zj E)) (H H1:List (Blk E)) (ho:ops[i]? =some o) (hf:Fr C rid spare ops off i (L i) env H H1) (hr:zbb C rid spare ops off L env' H' l (put env o.dst (L i).p) H1) :
  zbb C rid spare ops off L env' H' (i::l) env H
theorem zbb.bubble {env':List (zj E)}{H':List (Blk E)}{y:Nat}{post:List Nat}:∀ {pre:List Nat}{env:List (zj E)}{H:List (Blk E)},(∀x∈pre,zvl ops spare x y (L x) (L y)) ->
  zbb C rid spare ops off L env' H' (pre++y::post) env H->zbb C rid spare ops off L env' H' (y::(pre++post)) env H
 | [],env,H,_,h=>h
 | x::pre,env,H,hI,h=>by
  cases h with
  | cons _ _ o _ _ H1 ho hf hr =>
   have hr:=zbb.bubble (pre:=pre) (fun z hz=>hI z (zBr _ hz)) hr;cases hr with
   | cons _ _ o2 _ _ H2 ho2 hf2 hr2 =>
    obtain ⟨Hy,g1,g2,g3⟩:=Fr.swap ho ho2 (hI x (zBx ..)) hf hf2;refine .cons y _ o2 _ _ Hy ho2 g1 (.cons x _ o _ _ H2 ho g2 ?_);rw [<-g3];exact hr2
def zdN (acc:List Nat) (o:Oper):Nat:=o.after.foldl (fun s e=>if Region.binds .any e then s|||2 ^ e.on|||acc.getD e.on 0 else s) 0
theorem zq6:∀(l:List Oper) (acc:List Nat),(∀k,k<acc.length->(V9 l acc)[k]? =acc[k]?) /\
  ∀(j:Nat) (o:Oper),l[j]? =some o->(V9 l acc)[acc.length+j]? =some (zdN ((V9 l acc).take (acc.length+j)) o)
 | [],acc=>⟨fun _ _=>rfl,fun j o h=>by simp at h⟩
 | o::l,acc=>by
  obtain ⟨h1,h2⟩:=zq6 l (acc++[zdN acc o]);have e:V9 (o::l) acc=V9 l (acc++[zdN acc o]):=rfl;rw [e];refine ⟨fun k hk=>?_,fun j o' hj=>?_⟩
  .rw [h1 k (by simp;omega),zBM hk]
  .cases j with
   | zero =>
    have:o=o':=by simpa using hj
    subst this;have ht:(V9 l (acc++[zdN acc o])).take acc.length=acc:=by
     apply List.ext_getElem?;intro k;rw [zCp];split
     .rw [h1 k (by simp;omega),zBM (by assumption)]
     .rw [zCj (by omega)]
    simp only [zCd];rw [ht,h1 acc.length (by simp)];simp
   | succ j =>
    have:=h2 j o' (by simpa using hj);simp only [zBz,zBv,zB4] at this;rw [show acc.length+(j+1)=acc.length+(0+1)+j by omega];exact this
theorem zrO {acc:List Nat}{o:Oper}{x:Nat}(h:(zdN acc o).testBit x=true):∃e∈o.after,Region.binds .any e=true/\(e.on=x\/(acc.getD e.on 0).testBit x=true):=by
 unfold zdN at h;rw [<-Array.foldl_toList] at h;have key:∀(l:List Edge) (s:Nat),(l.foldl (fun s e=>if Region.binds .any e then s|||2 ^ e.on|||acc.getD e.on 0 else s) s).testBit x=true ->
   s.testBit x=true\/∃e∈l,Region.binds .any e=true/\(e.on=x\/(acc.getD e.on 0).testBit x=true):=by
  intro l
  induction l with
  | nil=>intro s h;exact .inl h
  | cons e l ih =>
   intro s h;simp only [zCs] at h;rcases ih _ h with h | ⟨e',he',h'⟩
   .split at h
    .rename_i hb;simp only [Nat.testBit_or,zCx,Nat.testBit_two_pow,decide_eq_true_eq] at h;rcases h with (h | h) | h
     .exact .inl h
     .exact .inr ⟨e,by simp,hb,.inl h⟩
     .exact .inr ⟨e,by simp,hb,.inr h⟩
    .exact .inl h
   .exact .inr ⟨e',by simp [he'],h'⟩
 rcases key _ _ h with h | ⟨e,he,h⟩
 .simp at h
 .exact ⟨e,by simpa using he,h⟩
end
end Go.Pe
namespace Go.Pe
variable {E:yG}
section
variable {C:Cfg E}{P:Program}{G:Nat->Prop}{W0:World}{ro:Option Nat}{n:Nat}{A0:Nat->Prop}{rid spare:Nat}{ops:Array Oper}{off:Nat->Nat}{L:Nat->zfx E}
theorem zoL (h:zeA ops=true) {j:Nat}{o:Oper}(ho:ops[j]? =some o) {e:Edge}(he:e∈o.after) (hb:Region.binds .any e=true):e.on<j:=by
 unfold zeA at h;have hj:j<ops.size:=(zBP.1 ho).1;have:=zBL.1 h j (zBW.2 hj);rw [ho] at this;split at this
 .rename_i oj m e1 _;injection e1 with e1;subst e1;simp only [zBl] at this;have:=Array.all_eq_true'.1 this.1.1 e he;simp only [hb,zB6,Bool.false_or] at this;exact zB0 this
 .cases this
theorem zpW {listed:Array Bool}{i j:Nat}(h:listed.getD j true=true):(listed.setIfInBounds i true).getD j true=true:=by
 rw [zBN] at h ⊢;rw [Array.getElem?_setIfInBounds];split
 .split<;>rfl
 .exact h
theorem zxO (hP:C.P=P) (hyl:C.yl=false) (hT:yX E.leaves C.P C.tab=true) (hS:Z8 C G W0) {Q:Exit->Act->World->Prop}(hreg:zeA ops=true)
  (hI:∀x y,x<y->y<ops.size->((V9 ops.toList []).getD y 0).testBit x=false->zvl ops spare x y (L x) (L y)) {env':List (zj E)}{H':List (Blk E)} :
  ∀(fuel:Nat) (rem:List Nat) (listed:Array Bool) {env:List (zj E)}{H:List (Blk E)}{μ:Nat->Loc}{w:World}{a:Act},zbb C rid spare ops off L env' H' rem env H->rem.Pairwise (· < ·) ->
   (∀i,i∈rem↔i<ops.size/\listed.getD i true=false)->listed.size=ops.size->(∀j,j<ops.size->listed.getD j true=true->∀x,((V9 ops.toList []).getD j 0).testBit x=true->listed.getD x true=true) ->
   rem.length<=fuel->St (C:=C) (P:=P) G W0 none A0 μ H w env a->(∀ μ' w' a',St (C:=C) (P:=P) G W0 none A0 μ' H' w' env' a'->Mid false A0 μ H w A0 μ' H' w'->env'.length=env.length->Q .normal a' w')->wpAnyIn (Z0 ro) n P .any ops Q fuel listed a w:=by
 have done:∀(rem:List Nat) (listed:Array Bool) {env:List (zj E)}{H:List (Blk E)}{μ:Nat->Loc}{w:World}{a:Act},zbb C rid spare ops off L env' H' rem env H ->
   (∀i,i∈rem↔i<ops.size/\listed.getD i true=false)->listed.size=ops.size->rem.Pairwise (· < ·)->St (C:=C) (P:=P) G W0 none A0 μ H w env a->(∀ μ' w' a',St (C:=C) (P:=P) G W0 none A0 μ' H' w' env' a'->Mid false A0 μ H w A0 μ' H' w'->env'.length=env.length->Q .normal a' w') ->
   Region.ready .any ops listed=[]->Q .normal a w:=by
  intro rem listed env H μ w a hrun hmem hsz hsort S hQ hnil;cases hrun with
  | nil=>exact hQ μ w a S Mid.refl rfl
  | cons i l o _ _ H1 ho hf hr =>
   exfalso;have hi:=(hmem i).1 (zBx ..);have:i∈Region.ready .any ops listed:=mem_ready.2 ⟨hi.2,o,ho,fun e he hb=>by
    have hlt:=zoL hreg ho he hb;cases hg:listed.getD e.on false with
    | true=>rfl
    | false =>
     exfalso;have hlt2:e.on<listed.size:=by omega
     have hin:e.on∈i::l:=(hmem e.on).2 ⟨by omega,by
      rw [zBN,zCr hlt2] at hg ⊢;exact hg⟩
     rcases zBG.1 hin with h | h
     .omega
     .have:=(List.pairwise_cons.1 hsort).1 _ h;omega⟩
   rw [hnil] at this;simp at this
 have tt:∀(listed:Array Bool) (k:Nat),listed.getD k false=true->listed.getD k true=true:=by
  intro listed k h;rw [zBN] at h ⊢;cases e:listed[k]? with
  | none=>rfl
  | some b=>rw [e] at h;simpa using h
 intro fuel
 induction fuel with
 | zero =>
  intro rem listed env H μ w a hrun hsort hmem hsz hcl hlen S hQ;have h0:rem=[]:=zB7 (by omega);have hnil:Region.ready .any ops listed=[]:=by
   cases hr:Region.ready .any ops listed with
   | nil=>rfl
   | cons i l =>
    have:i∈Region.ready .any ops listed:=by rw [hr];simp
    obtain ⟨h1,o,ho,_⟩:=mem_ready.1 this;have:i∈rem:=(hmem i).2 ⟨(zBP.1 ho).1,h1⟩;rw [h0] at this;simp at this
  exact ⟨hnil,done rem listed hrun hmem hsz hsort S hQ hnil⟩
 | succ fuel ih =>
  intro rem listed env H μ w a hrun hsort hmem hsz hcl hlen S hQ;refine ⟨done rem listed hrun hmem hsz hsort S hQ,fun i hi=>?_⟩;obtain ⟨h1,o,ho,hed⟩:=mem_ready.1 hi;have hisz:=(zBP.1 ho).1;have hir:i∈rem:=(hmem i).2 ⟨hisz,h1⟩;obtain ⟨pre,post,rfl⟩:=List.append_of_mem hir;have hbits:∀x,((V9 ops.toList []).getD i 0).testBit x=true->listed.getD x true=true:=by
   intro x hx;have hM:=(zq6 ops.toList []).2 i o (by simpa using ho);simp only [zB4,Nat.zero_add] at hM;rw [zBp,hM] at hx;obtain ⟨e,he,hb,hc⟩:=zrO hx;have hl:=tt _ _ (hed e he hb);have hlt:=zoL hreg ho he hb;rcases hc with rfl | hc
   .exact hl
   .refine hcl e.on (by omega) hl x ?_;rw [zBp,zCp,zb hlt,<-zBp] at hc;exact hc
  have hb:=zbb.bubble (fun x hx=>?_) hrun
  .cases hb with
   | cons _ _ o' _ _ H1 ho' hf hr =>
    rw [ho] at ho';injection ho' with ho';subst ho';obtain ⟨H1',k1,k2,k3,k4⟩:=hf.run o ho env H (fun _ _=>rfl) rfl rfl (fun _ _=>rfl);have e:H1'=H1:=zs3 (by rw [k2,hf.len]) (fun id=>by
     by_cases hw:id∈(L i).ws
     .exact k3 id (.inr hw)
     .rw [k4 id hw,hf.out id hw])
    subst e;refine zm7 (yk:=none) hP hT hS hyl (fun h=>by cases h) (K:=fun e h=>some (e,h)) (r:=(put env o.dst (L i).p,H1')) ho (fun h=>by cases h) S (k1 _) ?_;intro env2 H2 A2 μ2 w2 a2 S2 T2 hA hl2 hk;obtain rfl:=hA rfl;simp only [Option.some.injEq,Prod.mk.injEq] at hk;obtain ⟨rfl,rfl⟩:=hk;refine ih (pre++post) (listed.setIfInBounds i true) hr (hsort.sublist (by simp)) (fun j=>?_) (by simp [hsz]) (fun j hj hlj x hx=>?_) (by simp at hlen ⊢;omega) S2 (fun μ3 w3 a3 S3 T3 hl3=>hQ μ3 w3 a3 S3 (T2.trans T3) (hl3.trans hl2))
    .have hm:=hmem j;have hni:i∉pre++post:=by
      intro h;have hp:=List.pairwise_append.1 hsort;rcases zBE.1 h with h | h
      .exact Nat.lt_irrefl _ (hp.2.2 i h i (by simp))
      .exact Nat.lt_irrefl _ ((List.pairwise_cons.1 hp.2.1).1 i h)
     by_cases hji:j=i
     .subst hji;constructor
      .intro h;exact zk h hni
      .rintro ⟨_,h⟩;rw [zBN,Array.getElem?_setIfInBounds] at h;simp [hsz,hisz] at h
     .rw [zBN,zCZ (fun e=>hji e.symm),<-zBN,<-hm];simp [hji]
    .have mono:listed.getD x true=true->(listed.setIfInBounds i true).getD x true=true:=zpW;by_cases hji:j=i
     .subst hji;exact mono (hbits x hx)
     .refine mono (hcl j hj ?_ x hx);rw [zBN,zCZ (fun e=>hji e.symm),<-zBN] at hlj;exact hlj
  .have hlt:x<i:=by
    have:=List.pairwise_append.1 hsort;exact this.2.2 x hx i (by simp)
   refine hI x i hlt hisz ?_;cases hbt:((V9 ops.toList []).getD i 0).testBit x with
   | false=>rfl
   | true =>
    have hl:=hbits x hbt;have:=((hmem x).1 (by simp [hx])).2;rw [this] at hl;cases hl
end
end Go.Pe
namespace Go.Pe
variable {E:yG}
section
variable {C:Cfg E}{rid spare:Nat}{ops:Array Oper}{off:Nat->Nat}
theorem zbb.congr {L L':Nat->zfx E}{env':List (zj E)}{H':List (Blk E)}:∀ {l:List Nat}{env:List (zj E)}{H:List (Blk E)},(∀j∈l,L j=L' j)->zbb C rid spare ops off L env' H' l env H->zbb C rid spare ops off L' env' H' l env H
 | [],env,H,_,h=>by cases h;exact .nil
 | j::l,env,H,hj,h=>by
  cases h with
  | cons _ _ o _ _ H1 ho hf hr =>
   have e:=hj j (zBx ..);rw [e] at hf hr;exact .cons j l o env H H1 ho hf (zbb.congr (fun k hk=>hj k (zBr _ hk)) hr)
theorem zAH {a b:List Nat}(h:zjp a b=true):∀x∈a,x∉b:=by
 intro x hx hb;have:=zBL.1 h x hx;simp only [zBC,List.any_eq_false] at this;exact this x hb (by simp)
def Ap (rs ws:List Nat) (L:zfx E):Prop:=(∀id,id∈ws->id∉L.rs/\id∉L.ws)/\∀id,id∈L.ws->id∉rs/\id∉ws
theorem Ap.none (L:zfx E):Ap [] [] L:=⟨fun id h=>by simp at h,fun id _=>⟨by simp,by simp⟩⟩
theorem zaP:∀(l:List Nat) (i:Nat),(Zi l).testBit i=true↔i∈l
 | [],i=>by simp [Zi]
 | a::l,i=>by
  have e:Zi (a::l)=Zi l|||2 ^ a:=rfl;rw [e,Nat.testBit_or,zCx,zaP l i,Nat.testBit_two_pow];simp only [decide_eq_true_eq,zBG];constructor
  .rintro (h | h)
   .exact .inr h
   .exact .inl h.symm
  .rintro (h | h)
   .exact .inr h.symm
   .exact .inl h
theorem zcs {a b:List Nat}(h:Nat.beq (Nat.land (Zi a) (Zi b)) 0=true):∀id,id∈a->id∉b:=by
 intro id ha hb;have h:Zi a&&&Zi b=0:=zBs h;have:=Nat.testBit_and (Zi a) (Zi b) id;rw [h,(zaP a id).2 ha,(zaP b id).2 hb] at this;simp at this
def zpw (log:List (Nat×List Nat×List Nat)):List (Nat×Nat×Nat):=log.map fun e=>(e.1,Zi e.2.1,Zi e.2.2)
theorem zoa {mask:Nat}{rs ws:List Nat}:∀ {log:List (Nat×List Nat×List Nat)},zmj mask (Zi rs) (Zi ws) (zpw log)=true->∀e∈log,mask.testBit e.1=false->∀p:zj E,Ap e.2.1 e.2.2 ⟨p,rs,ws⟩
 | [],_,e,he,_,_=>by simp at he
 | (k,rk,wk)::log,h,e,he,hb,p=>by
  simp only [zpw,zCo,zmj,zBl,zCx] at h;rcases zBG.1 he with rfl | he
  .rcases h.1 with h1 | h1
   .rw [hb] at h1;cases h1
   .obtain ⟨⟨h1,h2⟩,h3⟩:=h1;exact ⟨fun id hid=>⟨zcs h1 id hid,zcs h2 id hid⟩,fun id hid=>⟨fun h=>zcs h3 id h hid,fun h=>zcs h2 id h hid⟩⟩
  .exact zoa h.2 e he hb p
theorem Ap.none' (p:zj E) (rs ws:List Nat):Ap rs ws ⟨p,[],[]⟩:=⟨fun id _=>⟨by simp,by simp⟩,fun id h=>by simp at h⟩
def zqN (l:List Oper):Nat:=l.foldl (fun n o=>n+UU o.op) 0
theorem zwD (o:Oper) (l:List Oper):zqN (o::l)=UU o.op+zqN l:=by
 have:∀(l:List Oper) (n:Nat),l.foldl (fun n o=>n+UU o.op) n=n+l.foldl (fun n o=>n+UU o.op) 0:=by
  intro l
  induction l with
  | nil=>intro n;rfl
  | cons o l ih=>intro n;simp only [zCs];rw [ih,ih (0+UU o.op)];omega
 unfold zqN;rw [zCs,this];omega
theorem zty (hyl:C.yl=false) {M:Nat->Nat}{R:Type}{K:List (zj E)->List (Blk E)->Option R}{r:R}:∀(l:List Oper) (ms:List Nat) (i fresh:Nat) (log:List (Nat×List Nat×List Nat)) {env:List (zj E)}{H:List (Blk E)},
  (∀k o,l[k]? =some o->ops[i+k]? =some o)->(∀k,k<l.length->ms[k]? =some (M (i+k)))->(∀k,k<l.length->off (i+k)=fresh+zqN (l.take k))->XX C rid spare ops l ms i fresh (zpw log) env H K=some r ->
  ∃(L:Nat->zfx E) (env':List (zj E)) (H':List (Blk E)),K env' H'=some r/\zbb C rid spare ops off L env' H' (List.range' i l.length) env H /\
   ∀y,i<=y->y<i+l.length->spare∉(L y).ws/\(∀e∈log,(M y).testBit e.1=false->Ap e.2.1 e.2.2 (L y))/\∀x,i<=x->x<y->(M y).testBit x=false->Ap (L x).rs (L x).ws (L y)
 | [],ms,i,fresh,log,env,H,_,_,_,h=>⟨fun _=>⟨.any,[],[]⟩,env,H,by simpa [XX] using h,.nil,fun y h1 h2=>by simp at h2;omega⟩
 | o::l,[],i,fresh,log,env,H,_,hm,_,h=>by simp [XX] at h
 | o::l,m::ms,i,fresh,log,env,H,hl,hm,ho,h=>by
  simp only [XX] at h;obtain ⟨p,H1,rs,ws,hk0,hlen,hout,hfr⟩:=zt3 hyl h;have hk:∃log',XX C rid spare ops l ms (i+1) (fresh+UU o.op) (zpw log') (put env o.dst p) H1 K=some r/\((log'=log/\rs=[]/\ws=[])\/(log'=(i,rs,ws)::log/\zmj m (Zi rs) (Zi ws) (zpw log)=true/\spare∉ws)):=by
   split at hk0
   .exact ⟨log,hk0,.inl ⟨rfl,rfl,rfl⟩⟩
   .simp only [XO] at hk0;split at hk0;rotate_left
    .cases hk0
    rename_i hc;simp only [zBl,zBC] at hc;refine ⟨(i,rs,ws)::log,hk0,.inr ⟨rfl,hc.1,fun hs=>?_⟩⟩;rw [(zaP ws spare).2 hs] at hc;exact zk hc.2 (by simp)
  obtain ⟨log',hk1,hcase⟩:=hk;have hm0:m=M i:=by have:=hm 0 (by simp);simpa using this
  subst hm0;have ho0:off i=fresh:=by have:=ho 0 (by simp);simpa [zqN] using this
  obtain ⟨L,env',H',k1,k2,k3⟩:=zty hyl l ms (i+1) _ _ (fun k o' hk'=>by rw [show i+1+k=i+(k+1) by omega];exact hl (k+1) o' (by simpa using hk'))
   (fun k hk'=>by rw [show i+1+k=i+(k+1) by omega];have:=hm (k+1) (by simpa using hk');simpa using this)
   (fun k hk'=>by rw [show i+1+k=i+(k+1) by omega];have:=ho (k+1) (by simpa using hk');rw [this,List.take_succ_cons,zwD];omega) hk1
  let L':Nat->zfx E:=fun j=>if j=i then ⟨p,rs,ws⟩ else L j;have e1:L' i=⟨p,rs,ws⟩:=zb rfl;have e2:∀j,i<j->L' j=L j:=fun j hj=>ze;refine ⟨L',env',H',k1,?_,fun y h1 h2=>?_⟩
  .rw [zBv,List.range'_succ];refine .cons i _ o env H H1 (hl 0 o rfl) ⟨hlen,fun id hid=>hout id (by rw [e1] at hid;exact hid),fun o' ho' env1 H2 ha hl2 hsp hg=>?_⟩ ?_
   .have e3:o'=o:=by have:=hl 0 o rfl;rw [zCd,ho'] at this;injection this
    subst e3;rw [e1] at hg ⊢;rw [ho0];exact hfr env1 H2 ha hl2 hsp hg
   .rw [e1];exact zbb.congr (fun j hj=>(e2 j (by have:=List.mem_range'_1.1 hj;omega)).symm) k2
  .by_cases hy:y=i
   .subst hy;rw [e1];rcases hcase with ⟨_,rfl,rfl⟩ | ⟨_,hc1,hc2⟩
    .exact ⟨by simp,fun e he hb=>Ap.none' _ _ _,fun x h3 h4=>by omega⟩
    .exact ⟨hc2,fun e he hb=>zoa hc1 e he hb p,fun x h3 h4=>by omega⟩
   .obtain ⟨g1,g2,g3⟩:=k3 y (by omega) (by simp at h2;omega);rw [e2 y (by omega)];refine ⟨g1,fun e he hb=>g2 e ?_ hb,fun x h3 h4 hb=>?_⟩
    .rcases hcase with ⟨rfl,_,_⟩ | ⟨rfl,_,_⟩
     .exact he
     .exact zBr _ he
    .by_cases hx:x=i
     .subst hx;rw [e1];rcases hcase with ⟨_,rfl,rfl⟩ | ⟨rfl,_,_⟩
      .exact Ap.none _
      .exact g2 (x,_,_) (zBx ..) hb
     .rw [e2 x (by omega)];exact g3 x (by omega) h4 hb
theorem zov {a:Option Nat}{l:List Nat}(h:zr2 a l=false):∀d,a=some d->d∉l:=by
 rintro d rfl hd;simp only [zr2,List.any_eq_false] at h;exact h d hd (by simp)
theorem zui (h:zeA ops=true) {x y:Nat}{ox oy:Oper}(hx:ops[x]? =some ox) (hy:ops[y]? =some oy) (hlt:x<y) (hb:((V9 ops.toList []).getD y 0).testBit x=false) :
  (∀d,ox.dst=some d->oy.dst≠some d)/\(∀d,ox.dst=some d->d∉looks ops oy)/\∀d,oy.dst=some d->d∉looks ops ox:=by
 unfold zeA at h;have hj:y<ops.size:=(zBP.1 hy).1;have:=zBL.1 h y (zBW.2 hj);rw [hy] at this;split at this
 .rename_i oj m e1 e2;injection e1 with e1;subst e1;simp only [zBl] at this;have:=zBL.1 this.2 x (zBW.2 hlt);rw [zBp,e2] at hb;have hb:m.testBit x=false:=by simpa using hb
  rw [hb,hx] at this;simp only [Bool.false_or,zBl,zBC] at this;obtain ⟨⟨h1,h2⟩,h3⟩:=this;refine ⟨fun d hd hd2=>?_,zov h2,zov h3⟩;rw [hd,hd2] at h1;simp [zuH] at h1
 .cases this
theorem zwg (h:zeA ops=true):∀k,k<ops.size->(V9 ops.toList [])[k]? =some ((V9 ops.toList []).getD k 0):=by
 intro k hk;unfold zeA at h;have:=zBL.1 h k (zBW.2 hk);split at this
 .rename_i oj m e1 e2;rw [zBp,e2];rfl
 .cases this
theorem zjP {P:Program}(hP:C.P=P) (hyl:C.yl=false) {ro:Option Nat}{n:Nat}{G:Nat->Prop}{W0:World}{A0:Nat->Prop}{μ:Nat->Loc}{H:List (Blk E)}{w:World}{env:List (zj E)}{a:Act}{fresh:Nat}(hT:yX E.leaves C.P C.tab=true) (hS:Z8 C G W0) {R:Type}{K:List (zj E)->List (Blk E)->Option R}{r:R}
  {Q:Exit->Act->World->Prop}(hreg:zeA ops=true) (S:St (C:=C) (P:=P) G W0 none A0 μ H w env a) (h:XX C rid spare ops ops.toList (V9 ops.toList []) 0 fresh [] env H K=some r) (hN:zvm (C:=C) (P:=P) G W0 none A0 μ H w env.length K r (Q .normal)) :
  wpAnyIn (Z0 ro) n P .any ops Q ops.size (Array.replicate ops.size false) a w:=by
 obtain ⟨L,env',H',k1,k2,k3⟩:=zty hyl (M:=fun k=>(V9 ops.toList []).getD k 0) (off:=fun j=>fresh+zqN (ops.toList.take j)) ops.toList _ 0 fresh [] (fun k o hk=>by simpa using hk)
  (fun k hk=>by rw [Nat.zero_add];exact zwg hreg k (by simpa using hk)) (fun k _=>by simp) h
 have e:List.range' 0 ops.toList.length=List.range ops.size:=by rw [zCW,zCk]
 rw [e] at k2;refine zxO hP hyl hT hS (L:=L) hreg ?_ ops.size (List.range ops.size) _ k2 List.pairwise_lt_range (fun i=>?_) (by simp) (fun j hj hlj=>?_) (by simp) S (fun μ' w' a' S' T hl=>hN _ _ _ _ _ _ S' T (fun _=>rfl) hl k1)
 .intro x y hlt hy hb;obtain ⟨g1,_,g3⟩:=k3 y (Nat.zero_le _) (by simpa using hy);obtain ⟨g4,_,_⟩:=k3 x (Nat.zero_le _) (by simp;omega);obtain ⟨h1,h2⟩:=g3 x (Nat.zero_le _) hlt hb;exact ⟨h1,h2,g4,g1,fun ox oy hox hoy=>zui hreg hox hoy hlt hb⟩
 .simp only [zBW];constructor
  .intro hi;refine ⟨hi,?_⟩;rw [zBN];simp [hi]
  .exact fun h=>h.1
 .rw [zBN] at hlj;simp [hj] at hlj
end
end Go.Pe
namespace Go.Pe
variable {E:yG}
section
variable {C:Cfg E}{P:Program}{G:Nat->Prop}{W0:World}{yk:Option (YK C P G W0)}{A0:Nat->Prop}{μ:Nat->Loc}{H:List (Blk E)}{w:World}{env:List (zj E)}{a:Act}
theorem zpy (H:List (Blk E)) (k:Nat):zn (H++List.replicate k .free)=zn H:=by
 funext id;unfold zn;by_cases h:id<H.length
 .rw [zBM h]
 .rw [zBS (by omega),zCj (l:=H) (by omega)];rw [zCH];split<;>rfl
theorem zso {H1:List (Blk E)}(e:zn H1=zn H):Lv μ H1=Lv μ H:=by funext b;unfold Lv;rw [e]
theorem St.congr {H1:List (Blk E)}(e:zn H1=zn H) (S:St G W0 yk A0 μ H w env a):St G W0 yk A0 μ H1 w env a:=by
 have hL:Lv μ H1=Lv μ H:=zso e;have hU:Us H1=Us H:=by funext b;unfold Us;rw [e]
 have hA:Av A0 μ H1=Av A0 μ H:=by funext b;unfold Av;rw [hL]
 refine ⟨S.wd,⟨fun id=>?_,?_,?_⟩,S.size,fun t p h=>?_,S.marks,S.nomark,?_⟩
 .rw [hA,hU,e];exact S.sim.ok id
 .rw [e];exact S.sim.inj
 .rw [e];exact S.sim.out
 .have:=S.rep t p h;unfold Rp at this ⊢;rw [hA,hU];exact this
 .have:=S.ys;unfold Ys at this ⊢;rw [hL];exact this
theorem St.drew (S:St G W0 yk A0 μ H w env a):St G W0 yk A0 μ H w.drew env a:=S.trans z3.drew (z9.drew S.sim)
structure Far (fr:Bool) (kp:Ren) (A0:Nat->Prop) (μ:Nat->Loc) (H:List (Blk E)) (w:World) (A1:Nat->Prop) (μ':Nat->Loc) (H':List (Blk E)) (w':World):Prop where
 q:yv w w'
 block:fr=false->∀b,b<w.heap.size->¬Lv μ H b->w'.heap[b]? =w.heap[b]?
 lv:∀b,b<w.heap.size->Lv μ' H' b->Lv μ H b
 up:∀b,A0 b->A1 b
 dn:fr=false->∀b,b<w.heap.size->A1 b->A0 b\/Lv μ H b
 keep:∀k,kp.get k=some (some k)->Us H k->Us H' k/\μ' k=μ k
theorem Far.refl {fr:Bool}{kp:Ren}{A0:Nat->Prop}{μ:Nat->Loc}{H:List (Blk E)}{w:World}:Far fr kp A0 μ H w A0 μ H w:=⟨yv.refl _,fun _ _ _ _=>rfl,fun _ _ h=>h,fun _ h=>h,fun _ _ _ h=>.inl h,fun _ _ h=>⟨h,rfl⟩⟩
theorem Far.trans {fr:Bool}{kp:Ren}{A1 A2:Nat->Prop}{μ1 μ2:Nat->Loc}{H1 H2:List (Blk E)}{w1 w2:World}(h:Far fr kp A0 μ H w A1 μ1 H1 w1) (k:Far fr kp A1 μ1 H1 w1 A2 μ2 H2 w2):Far fr kp A0 μ H w A2 μ2 H2 w2 :=
 ⟨h.q.trans k.q,fun hf b hb hl=>(k.block hf b (zBK hb h.q.size) (fun hl1=>hl (h.lv b hb hl1))).trans (h.block hf b hb hl),
  fun b hb hl=>h.lv b hb (k.lv b (zBK hb h.q.size) hl),fun b hb=>k.up b (h.up b hb),fun hf b hb ha=>(k.dn hf b (zBK hb h.q.size) ha).elim (h.dn hf b hb) (fun hl=>.inr (h.lv b hb hl)),fun i hi hu=>by
  obtain ⟨h1,h2⟩:=h.keep i hi hu;obtain ⟨h3,h4⟩:=k.keep i hi h1;exact ⟨h3,h4.trans h2⟩⟩
theorem Mid.long {fr:Bool}{A1:Nat->Prop}{μ':Nat->Loc}{H1 H':List (Blk E)}{w':World}(e:zn H1=zn H) (m:Mid fr A0 μ H1 w A1 μ' H' w'):Mid fr A0 μ H w A1 μ' H' w':=by
 have hL:Lv μ H1=Lv μ H:=zso e;exact ⟨m.q,by rw [<-hL];exact m.block,by rw [<-hL];exact m.lv,m.up,fun id hu=>m.used id (by unfold Us at hu ⊢;rw [e];exact hu)⟩
theorem Mid.far {fr:Bool}{kp:Ren}{A1:Nat->Prop}{μ':Nat->Loc}{H':List (Blk E)}{w':World}(m:Mid fr A0 μ H w A1 μ' H' w') (hA:fr=false->A1=A0):Far fr kp A0 μ H w A1 μ' H' w' :=
 ⟨m.q,m.block,m.lv,m.up,fun hf b _ h=>.inl (by rw [hA hf] at h;exact h),fun k _ hu=>m.used k hu⟩
theorem zkC (hP:C.P=P) (hT:yX E.leaves C.P C.tab=true) (hS:Z8 C G W0) (hyl:C.yl=yk.isSome) {R:Type}{K:List (zj E)->List (Blk E)->Option R}{r:R}{rid spare:Nat}{ops:Array Oper}{ro:Option Nat}{n:Nat}(hro:yk.isSome=true->ro=none)
  {Q:Exit->Act->World->Prop}:∀(l:List Oper) (i fresh:Nat) {env:List (zj E)}{H:List (Blk E)}{A0:Nat->Prop}{μ:Nat->Loc}{w:World}{a:Act},(∀k o,l[k]? =some o->ops[i+k]? =some o)->(yk.isSome=true->∀o∈l,o.dst≠some 0)->St G W0 yk A0 μ H w env a ->
  zsg C (zh0 _) rid spare ops l i fresh env H K=some r->zvm G W0 yk A0 μ H w env.length K r (Q .normal)->wpOpsIn (Z0 ro) n P ops Q (List.range' i l.length) a w
 | [],i,fresh,env,H,A0,μ,w,a,hl,hd,S,h,hN=>hN _ _ _ _ _ _ S Mid.refl (fun _=>rfl) rfl h
 | o::l,i,fresh,env,H,A0,μ,w,a,hl,hd,S,h,hN=>by
  rw [zBv,List.range'_succ,wpOpsIn_cons];refine zm7 hP hT hS hyl hro (hl 0 o rfl) (fun hy=>hd hy o (zBx ..)) S h ?_;intro env' H' A1 μ' w' a' S' T hA hlen hk;refine zkC hP hT hS hyl hro l (i+1) _ (fun k o' hk'=>by rw [show i+1+k=i+(k+1) by omega];exact hl (k+1) o' (by simpa using hk')) (fun hy o' ho'=>hd hy o' (zBr _ ho')) S' hk ?_;intro env2 H2 A2 μ2 w2 a2 S2 T2 hA2 hlen2 hk2;exact hN _ _ _ _ _ _ S2 (T.trans T2) (fun h=>(hA2 h).trans (hA h)) (hlen2.trans hlen) hk2
theorem zmZ {ops:Array Oper}(h:zoj ops=true):∀o∈ops.toList,o.dst≠some 0:=by
 intro o ho e;have:=zBL.1 h o ho;rw [e] at this;simp at this
theorem zri {A0:Nat->Prop}{μ:Nat->Loc}{H:List (Blk E)}{w:World}{a:Act}(n:Nat):∀(l:List Nat) (ps:List (zj E)),RL (Rp E A0 μ H w) ps (l.map fun t=>a.tmps.getD t undef) ->
  (zpp n l ps).length=n/\∀t p,(zpp n l ps)[t]? =some p->Rp E A0 μ H w p (a.tmps.getD t undef):=by
 have key:∀(l:List Nat) (ps:List (zj E)) (e:List (zj E)),RL (Rp E A0 μ H w) ps (l.map fun t=>a.tmps.getD t undef)->(∀t p,e[t]? =some p->Rp E A0 μ H w p (a.tmps.getD t undef)) ->
   ((l.zip ps).foldl (fun e x=>e.set x.1 x.2) e).length=e.length/\∀t p,((l.zip ps).foldl (fun e x=>e.set x.1 x.2) e)[t]? =some p->Rp E A0 μ H w p (a.tmps.getD t undef):=by
  intro l
  induction l with
  | nil=>intro ps e _ he;exact ⟨rfl,he⟩
  | cons s l ih =>
   intro ps e hr he;cases ps with
   | nil=>exact ⟨rfl,he⟩
   | cons p ps =>
    have h0:Rp E A0 μ H w p (a.tmps.getD s undef):=hr.2 0 p _ rfl rfl;have:=ih ps (e.set s p) ⟨by have:=hr.1;simpa using this,fun j q u hq hu=>hr.2 (j+1) q u (by simpa using hq) (by simpa using hu)⟩ (fun t q hq=>by
     rw [zBZ] at hq;split at hq
     .rename_i e';subst e';split at hq
      .injection hq with hq;subst hq;exact h0
      .cases hq
     .exact he t q hq)
    refine ⟨?_,this.2⟩;have:=this.1;simpa using this
 intro l ps hr;have:=key l ps (List.replicate n .any) hr (fun t p hp=>by
  rw [zCH] at hp;split at hp
  .injection hp with hp;subst hp;exact .any _
  .cases hp)
 exact ⟨by simpa [zpp] using this.1,this.2⟩
theorem zig (S:St G W0 yk A0 μ H w env a) (l:List Nat):RL (Rp E A0 μ H w) (zV env l) (l.map fun t=>a.tmps.getD t undef) :=
 ⟨by simp [zV],fun j p u hp hu=>by
  simp only [zV,zBQ,zBD] at hp hu;obtain ⟨t,ht,rfl⟩:=hp;obtain ⟨t',ht',rfl⟩:=hu;rw [ht] at ht';injection ht' with ht';subst ht';exact S.slot t⟩
theorem zvj {N:Nat->Nat}:∀(k:SK) (qs:List (zj E)),k.notY=true->(∀q∈qs,ZC q)->∀m i,(xS N k qs).1≠ .yld m i
 | .any,qs,h,ht,m,i=>by simp [xS]
 | .val τ,[],h,ht,m,i=>by simp [xS]
 | .val τ,q::qs,h,ht,m,i=>by
  obtain ⟨t,x,rfl⟩:=ht q (zBx ..);simp [xS]
 | .full e,[],h,ht,m,i=>by simp [xS]
 | .full e,q::qs,h,ht,m,i=>by
  simp only [xS];unfold zml;split
  .split<;>(intro e;cases e)
  .intro e;cases e
 | .aptr e j,qs,h,ht,m,i=>by simp [xS]
 | .ptr j,qs,h,ht,m,i=>by simp [xS]
 | .own j,qs,h,ht,m,i=>by simp [xS]
 | .bsl j n,qs,h,ht,m,i=>by simp [xS]
 | .nilfn,qs,h,ht,m,i=>by simp [xS]
 | .nils,qs,h,ht,m,i=>by simp [xS]
 | .fns _,qs,h,ht,m,i=>by simp [xS]
 | .map j,qs,h,ht,m,i=>by simp [xS]
 | .fn f ks,qs,h,ht,m,i=>by simp [xS]
 | .yld,qs,h,ht,m,i=>by cases h
theorem ziL {N:Nat->Nat}:∀(ks:List SK) (qs:List (zj E)),ks.all SK.notY=true->(∀q∈qs,ZC q)->∀p∈(yC N ks qs).1,∀m i,p≠ .yld m i
 | [],qs,h,ht,p,hp,m,i=>by simp [yC] at hp
 | k::ks,qs,h,ht,p,hp,m,i=>by
  simp only [List.all_cons,zBl] at h;simp only [yC,zBG] at hp;rcases hp with rfl | hp
  .exact zvj k qs h.1 ht m i
  .exact ziL ks _ h.2 (zm2 k qs ht) p hp m i
theorem toP_typed:∀(hs:List Ty) (x:HL E.T hs),∀q∈HL.toP hs x,ZC q
 | [],_,q,h=>by simp [HL.toP] at h
 | t::ts,x,q,h=>by
  simp only [HL.toP,zBG] at h;rcases h with rfl | h
  .exact ⟨t,_,rfl⟩
  .exact toP_typed ts _ q h
theorem zsL:∀(z:List (Nat×zj E)) (e:List (zj E)) (t:Nat) (p:zj E),(z.foldl (fun e x=>e.set x.1 x.2) e)[t]? =some p->e[t]? =some p\/∃x∈z,x.2=p
 | [],e,t,p,h=>.inl h
 | y::z,e,t,p,h=>by
  rcases zsL z (e.set y.1 y.2) t p h with h | ⟨x,hx,e'⟩
  .rw [zBZ] at h;split at h
   .split at h
    .injection h with h;exact .inr ⟨y,zBx ..,h⟩
    .cases h
   .exact .inl h
  .exact .inr ⟨x,zBr _ hx,e'⟩
theorem zrf:∀(z:List (Nat×zj E)) (e:List (zj E)),(∀x∈z,x.1≠0)->(z.foldl (fun e x=>e.set x.1 x.2) e)[0]? =e[0]?
 | [],e,h=>rfl
 | y::z,e,h=>by
  have:=zrf z (e.set y.1 y.2) (fun x hx=>h x (zBr _ hx));rw [zCs,this,zBI (h y (zBx ..))]
theorem zwK {l:List Nat}{Sh:wn}{x:HL E.T Sh.holes}{ρ:Ren}{fz:List Nat}{kp:Ren}{n:Nat}{y i:Int}(hs:z9 A0 μ H w) {vs:List Value}(hr:RL (Rp E A0 μ H w) (zV env l) vs) (hn:0<n) (hy:Uq l Sh.vals=true) (h0:env[0]? =some (zj.yld y i)) (h:Wc kp Sh (zV env l) H=some (x,ρ,fz)) :
  (entry n l Sh x).1[0]? =some (zj.yld y i)/\∀(t:Nat) (m j:Int),(entry n l Sh x).1[t]? =some (zj.yld m j)->m=y:=by
 obtain ⟨vals,blks⟩:=Sh;unfold Uq at hy;simp only at hy;split at hy;rotate_left
 .cases hy
 rename_i t ts ks;simp only [zBl] at hy;obtain ⟨⟨ht,hts⟩,hks⟩:=hy;have ht:=zBs ht;subst ht;unfold Wc at h;have es:zV env (0::ts)= .yld y i::zV env ts:=by simp [zV,h0]
 rw [es] at h hr;simp only [Zt,xM] at h;split at h;rotate_left
 .cases h
 rename_i s h1;split at h;rotate_left
 .cases h
 rename_i s' h2;split at h;rotate_left
 .cases h
 rename_i x' h3;split at h;rotate_left
 .cases h
 simp only [Option.some.injEq,Prod.mk.injEq] at h;obtain ⟨rfl,_,_⟩:=h;cases vs with
 | nil=>have:=hr.1;simp at this
 | cons v vs =>
  have hr':RL (Rp E A0 μ H w) (zV env ts) vs:=⟨by have:=hr.1;simpa using this,fun j p u hp hu=>hr.2 (j+1) p u (by simpa using hp) (by simpa using hu)⟩
  obtain ⟨n1,a1,_⟩:=Vw (A':=fun _=>False) (U':=fun _=>True) (M:=μ) (N:=id) hs (fun _ h=>h.elim) ks _ _ _ _ h1 hr';obtain ⟨n2,b1,_⟩:=XJ (A':=fun _=>False) (U':=fun _=>True) (M:=μ) (N:=id) hs (fun _ h=>h.elim) _ _ _ _ h2;have e2:s'.2= .v (.int .i64) y:: .v (.int .i64) i::(n1++n2):=by rw [b1,a1];simp
  rw [e2] at h3;have hholes:(wn.mk (.yld::ks) blks).holes= .int .i64:: .int .i64::(SK.holesL ks++BK.holesL blks):=rfl;obtain ⟨x0,fz0⟩:=x';obtain ⟨xa,xb,xc⟩:=x0;have hx:xa=y/\xb=i:=by
   have h3:X1 (E:=E) (.int .i64:: .int .i64::(SK.holesL ks++BK.holesL blks)) (.v (.int .i64) y:: .v (.int .i64) i::(n1++n2)) H=some ((xa,xb,xc),fz0):=h3;simp only [X1,toT,vz,vC,dif_pos,zBk,zBw,Option.some.injEq,Prod.mk.injEq] at h3;obtain ⟨q,⟨q2,h4,rfl⟩,⟨e1,e2,_⟩,_⟩:=h3;exact ⟨e1.symm,by simpa using e2.symm⟩
  obtain ⟨rfl,rfl⟩:=hx;have ef:(yL id (wn.mk (.yld::ks) blks) (HL.toP (wn.mk (.yld::ks) blks).holes (xa,xb,xc))).1= .yld xa xb::(yC id ks (HL.toP (SK.holesL ks++BK.holesL blks) xc)).1:=rfl;have ee:(entry n (0::ts) (wn.mk (.yld::ks) blks) (xa,xb,xc)).1=(ts.zip (yC id ks (HL.toP (SK.holesL ks++BK.holesL blks) xc)).1).foldl (fun e x=>e.set x.1 x.2) ((List.replicate n zj.any).set 0 (.yld xa xb)):=by
   show zpp n (0::ts) _=_;rw [ef];rfl
  rw [ee];have htyp:=toP_typed (E:=E) (SK.holesL ks++BK.holesL blks) xc;refine ⟨?_,fun t m j hm=>?_⟩
  .rw [zrf]
   .simp [hn]
   .intro z hz e;have:=zBL.1 hts z.1 (List.of_mem_zip hz).1;rw [e] at this;simp at this
  .rcases zsL _ _ _ _ hm with h | ⟨z,hz,e⟩
   .rw [zBZ] at h;split at h
    .split at h
     .injection h with h;injection h with h;exact h.symm
     .cases h
    .rw [zCH] at h;split at h<;>cases h
   .exact zk e (ziL ks _ hks htyp z.2 (List.of_mem_zip hz).2 m j)
theorem St.entry (S:St G W0 yk A0 μ H w env a) {l:List Nat}{Sh:wn}{x:HL E.T Sh.holes}{ρ:Ren}{fz:List Nat}{kp:Ren}(hy:yk.isSome=true->Uq l Sh.vals=true) (h:Wc kp Sh (zV env l) H=some (x,ρ,fz)) :
  ∃A1 μ',St G W0 yk A1 μ' (entry env.length l Sh x).2 w (entry env.length l Sh x).1 a/\Far yk.isSome kp A0 μ H w A1 μ' (entry env.length l Sh x).2 w:=by
 obtain ⟨⟨Ac,ab⟩,hle⟩:=UJ S.sim (zig S l) h;obtain ⟨h1,h2⟩:=zri env.length l _ ab.rep;have keepk:∀k,kp.get k=some (some k)->Us (Pe.entry env.length l Sh x).2 k/\ρ.loc μ k=μ k:=fun k hk=>by
  have hg:=hle k _ hk;obtain ⟨b,hb1,hb2⟩:=ab.under k _ hg;have:=ab.bc k b hb1;rw [zd (by simp [hb2])] at this;obtain ⟨y,hy,hbc⟩:=this;rw [hg] at hy;injection hy with hy;subst hy;have hmem:xG (zn (yL id Sh (HL.toP Sh.holes x)).2 k)=true:=hbc.2.1;exact ⟨yA hmem,by simp only [Ren.loc,hg]⟩
 refine ⟨Ac,ρ.loc μ,⟨⟨fun b hb=>?_,fun g hg=>⟨ab.up g (S.wd.glob g hg).1,(S.wd.glob g hg).2⟩,fun b hb=>ab.up b (S.wd.kb b hb)⟩,ab.sim,?_,h2,?_,S.nomark,fun k hk=>?_⟩,⟨yv.refl _,fun _ _ _ _=>rfl,fun b _ hb=>ab.lv b hb,ab.up,fun _ b _ h=>ab.down b h,fun k hk _=>keepk k hk⟩⟩
 .rcases ab.down b hb with h | ⟨id,o,n,c,hl,hm⟩
  .exact S.wd.low b h
  .exact (S.sim.out id b o n c (xy hl) hm).2
 .exact S.size.trans h1.symm
 .exact S.marks.step (fun _ _ _=>rfl) ab.up
 .have hys:yk.isSome=true:=by rw [hk];rfl
  obtain ⟨⟨tr,A,q1,q2,q3⟩,q5⟩:=S.ys k hk;have hlt:0<env.length:=(zBt.1 q1).1;obtain ⟨e1,e2⟩:=zwK S.sim (zig S l) hlt (hy hys) q1 h;refine ⟨⟨tr,A,e1,k.stable q2 (yv.refl _) (fun _ _ _=>rfl) (fun b _ hb=>ab.lv b hb) ?_,fun b hb=>ab.up b (q3 b hb)⟩,e2⟩;rintro b ⟨id,o,n,c,hl,hm⟩;have:=ab.sim.out id b o n c (xy hl) hm;exact ⟨this.2,fun ha=>this.1 (ab.up b (q3 b ha))⟩
theorem zeV (n:Nat) (l:List Nat) (Sh:wn) (x:HL E.T Sh.holes):(entry n l Sh x).1.length=n:=by
 have:∀(z:List (Nat×zj E)) (e:List (zj E)),(z.foldl (fun e x=>e.set x.1 x.2) e).length=e.length:=by
  intro z
  induction z with
  | nil=>intro e;rfl
  | cons y z ih=>intro e;simp only [zCs];rw [ih];simp
 show ((l.zip _).foldl _ (List.replicate n zj.any)).length=n;rw [this];simp
def zjh:Ex->Exit
 | .normal=>.normal | .exit id=>.exit id | .ret=>.ret
def znG (C:Cfg E) (P:Program) (G:Nat->Prop) (W0:World) (yk:Option (YK C P G W0)) (n:Nat) (c:Code):Prop :=
 ∀ {R:Type}{r:R}{K:Ex->List (zj E)->List (Blk E)->Option R}{A0:Nat->Prop}{μ:Nat->Loc}{H:List (Blk E)}{w:World}{env:List (zj E)}{a:Act}{Q:Exit->Act->World->Prop}{m:Nat},
  St G W0 yk A0 μ H w env a->env.length=n->exec C c R env H K=some r ->
  (∀ex env' H' A1 μ' w' a',St G W0 yk A1 μ' H' w' env' a'->env'.length=n->Far yk.isSome C.kept A0 μ H w A1 μ' H' w'->K ex env' H'=some r->Q (zjh ex) a' w')->c.wpIn (Z0 none) m P Q a w
theorem zmp {p:Nat->Prop}(h:∃k,p k):∃k,p k/\∀j,p j->k<=j:=by
 classical
 obtain ⟨k,hk⟩:=h
 induction k using Nat.strongRecOn with
 | _ k ih =>
  by_cases hj:∃j,j<k/\p j
  .obtain ⟨j,h1,h2⟩:=hj;exact ih j h1 h2
  .exact ⟨k,hk,fun j hp=>Nat.le_of_not_lt fun h=>hj ⟨j,h,hp⟩⟩
theorem zvg {n:Nat}{body:Code}(ih:znG C P G W0 yk n body) {l:yf E}{o:xJ Unit l.gb.G l.gr.G}{Q:Exit->Act->World->Prop}{m:Nat}(hy:yk.isSome=true->Uq l.slots l.inn.vals=true/\Uq l.bslots l.brk.vals=true/\Uq l.rslots l.ret.vals=true)
  {A0:Nat->Prop}{μ:Nat->Loc}{w:World}{a:Act}{x:l.gi.G}(S:St G W0 yk A0 μ (entry n l.slots l.inn (l.gi.to x)).2 w (entry n l.slots l.inn (l.gi.to x)).1 a)
  (hx:yM (yQ C (exec C body) n l) x=some o)
  (hQ:∀A1 μ' w' a',(match o with
    | .again _=>False
    | .brk y=>St G W0 yk A1 μ' (entry n l.bslots l.brk (l.gb.to y)).2 w' (entry n l.bslots l.brk (l.gb.to y)).1 a'/\Far yk.isSome C.kept A0 μ (entry n l.slots l.inn (l.gi.to x)).2 w A1 μ' (entry n l.bslots l.brk (l.gb.to y)).2 w'
    | .ret y=>St G W0 yk A1 μ' (entry n l.rslots l.ret (l.gr.to y)).2 w' (entry n l.rslots l.ret (l.gr.to y)).1 a'/\Far yk.isSome C.kept A0 μ (entry n l.slots l.inn (l.gi.to x)).2 w A1 μ' (entry n l.rslots l.ret (l.gr.to y)).2 w':Prop) ->
    (match o with | .again _=>False | .brk _=>Q (.exit l.brkId) a' w' | .ret _=>Q .ret a' w':Prop)):(Code.loop body).wpIn (Z0 none) m P Q a w:=by
 classical
 rw [Uh] at hx;let J:Nat->Act->World->Prop:=fun k a1 w1=>∃A1 μ1 x1,vd (yQ C (exec C body) n l) k x1=some o/\St G W0 yk A1 μ1 (entry n l.slots l.inn (l.gi.to x1)).2 w1 (entry n l.slots l.inn (l.gi.to x1)).1 a1 /\
  Far yk.isSome C.kept A0 μ (entry n l.slots l.inn (l.gi.to x)).2 w A1 μ1 (entry n l.slots l.inn (l.gi.to x1)).2 w1
 let ms:Act->World->Nat:=fun a1 w1=>if h:∃k,J k a1 w1 then Classical.choose (zmp h) else 0;refine wpIn_loop (fun a1 w1=>∃k,J k a1 w1) ms ⟨rounds,A0,μ,x,hx,S,Far.refl⟩ ?_;intro a1 w1 hk;have hm:ms a1 w1=Classical.choose (zmp hk):=dif_pos hk;have hJ:=(Classical.choose_spec (zmp hk)).1;obtain ⟨A1,μ1,x1,hit,S1,F1⟩:=hJ;generalize Classical.choose (zmp hk)=k at hit hm;cases k with
 | zero=>simp [vd] at hit
 | succ k =>
  simp only [vd,zBw] at hit;obtain ⟨st,hst,hit⟩:=hit;unfold yQ at hst;refine ih S1 (zeV _ _ _ _) hst ?_;intro ex env' H' A2 μ2 w2 a2 S2 hl2 F2 hK;cases ex with
  | normal =>
   simp only [zBD] at hK;obtain ⟨⟨y,ρ,fz⟩,hrd,rfl⟩:=hK;obtain ⟨A3,μ3,S3,F3⟩:=S2.entry (fun h=>(hy h).1) hrd;rw [hl2] at S3 F3;rw [<-l.gi.law y] at S3 F3;have hJ':J k a2 w2:=⟨A3,μ3,l.gi.of y,hit,S3,F1.trans (F2.trans F3)⟩
   refine ⟨⟨k,hJ'⟩,?_⟩;have h1:ms a2 w2=Classical.choose (zmp ⟨k,hJ'⟩):=dif_pos ⟨k,hJ'⟩;have h2:=(Classical.choose_spec (zmp (p:=fun k=>J k a2 w2) ⟨k,hJ'⟩)).2 k hJ';show ms a2 w2<ms a1 w1;omega
  | exit j =>
   simp only at hK;split at hK;rotate_left
   .cases hK
   rename_i hj;have hj:=zBs hj;subst hj;simp only [zBD] at hK;obtain ⟨⟨y,ρ,fz⟩,hrd,rfl⟩:=hK;obtain ⟨A3,μ3,S3,F3⟩:=S2.entry (fun h=>(hy h).2.1) hrd;rw [hl2] at S3 F3;rw [<-l.gb.law y] at S3 F3;simp only [Option.some.injEq] at hit;subst hit;exact hQ A3 μ3 w2 a2 ⟨S3,F1.trans (F2.trans F3)⟩
  | ret =>
   simp only [zBD] at hK;obtain ⟨⟨y,ρ,fz⟩,hrd,rfl⟩:=hK;obtain ⟨A3,μ3,S3,F3⟩:=S2.entry (fun h=>(hy h).2.2) hrd;rw [hl2] at S3 F3;rw [<-l.gr.law y] at S3 F3;simp only [Option.some.injEq] at hit;subst hit;exact hQ A3 μ3 w2 a2 ⟨S3,F1.trans (F2.trans F3)⟩
end
end Go.Pe
namespace Go.Pe
variable {E:yG}
section
variable {C:Cfg E}{P:Program}{G:Nat->Prop}{W0:World}
theorem Uo (hP:C.P=P) (hT:yX E.leaves C.P C.tab=true) (hS:Z8 C G W0) (hyl:C.yl=false) (hm:P.follows .mixedOrders=true) {ro:Option Nat}{n:Nat}:∀c:Code,zet c=true->∀ {R:Type}{r:R}{K:Ex->List (zj E)->List (Blk E)->Option R}{A0:Nat->Prop}{μ:Nat->Loc}{H:List (Blk E)}{w:World}{env:List (zj E)}{a:Act}{Q:Exit->Act->World->Prop},
  St (C:=C) (P:=P) G W0 none A0 μ H w env a->exec C c R env H K=some r ->
  (∀ex env' H' μ' w' a',St (C:=C) (P:=P) G W0 none A0 μ' H' w' env' a'->Mid false A0 μ H w A0 μ' H' w'->env'.length=env.length->K ex env' H'=some r->Q (zjh ex) a' w')->c.wpIn (Z0 ro) n P Q a w
 | .skip,_=>fun S h hQ=>wpIn_skip (hQ .normal _ _ _ _ _ S Mid.refl rfl h)
 | .region rid ops draw,_=>by
  intro S h hQ;simp only [exec,ztR,XO,zp6,znL,hyl,Bool.false_and,zBT,if_false] at h;have e:∀H:List (Blk E),zn (H++List.replicate (zpG ops+1) .free)=zn H:=fun H=>zpy H _;cases draw with
  | true =>
   simp only [if_true] at h;split at h;rotate_left
   .cases h
   rename_i hreg;refine wpIn_region_any hm ?_;refine zjP hP hyl hT hS hreg ((S.congr (e _)).drew) h ?_;intro env' H' A1 μ' w' a' S' T hA hlen hk;obtain rfl:=hA rfl;exact hQ .normal _ _ _ _ _ S' (Mid.long (e _) (Mid.trans z3.drew.mid T)) hlen hk
  | false =>
   simp only [zBT,if_false] at h;refine wpIn_region ?_;rw [zCW,<-zCk];refine zkC (yk:=none) hP hT hS hyl (fun h=>by cases h) ops.toList 0 _ (fun k o hk=>by simpa using hk) (fun h=>by cases h) (S.congr (e _)) h ?_;intro env' H' A1 μ' w' a' S' T hA hlen hk;obtain rfl:=hA rfl;exact hQ .normal _ _ _ _ _ S' (Mid.long (e _) T) hlen hk
 | .seq x y,hf=>by
  intro S h hQ;simp only [exec] at h;simp only [zet,zBl] at hf;refine wpIn_seq (Uo hP hT hS hyl hm x hf.1 S h ?_);intro ex env' H' μ' w' a' S' T hl hk;cases ex with
  | normal=>exact Uo hP hT hS hyl hm y hf.2 S' hk (fun ex env2 H2 μ2 w2 a2 S2 T2 hl2 hk2=>hQ ex _ _ _ _ _ S2 (T.trans T2) (hl2.trans hl) hk2)
  | exit id=>exact hQ (.exit id) _ _ _ _ _ S' T hl hk
  | ret=>exact hQ .ret _ _ _ _ _ S' T hl hk
 | .cond c x y,hf=>by
  intro S h hQ;simp only [exec] at h;simp only [zet,zBl] at hf;split at h;rotate_left
  .cases h
  rename_i t hc;have hv:=S.eval c;rw [hc] at hv;have hv:=zkc hv;cases t with
  | true=>exact wpIn_cond_true hv (Uo hP hT hS hyl hm x hf.1 S h hQ)
  | false=>exact wpIn_cond_false hv (Uo hP hT hS hyl hm y hf.2 S h hQ)
 | .block id x,hf=>by
  intro S h hQ;simp only [exec] at h;refine wpIn_block (Uo hP hT hS hyl hm x hf S h ?_);intro ex env' H' μ' w' a' S' T hl hk;cases ex with
  | normal=>exact hQ .normal _ _ _ _ _ S' T hl hk
  | exit j =>
   simp only at hk;split at hk
   .rename_i hj;have hj:=zBs hj;simp only [zjh,Exit.inBlock,hj,if_true];exact hQ .normal _ _ _ _ _ S' T hl hk
   .rename_i hj;have hj:j≠id:=fun e=>hj (by subst e;simp);simp only [zjh,Exit.inBlock,zd hj];exact hQ (.exit j) _ _ _ _ _ S' T hl hk
  | ret=>exact hQ .ret _ _ _ _ _ S' T hl hk
 | .exit id,_=>by
  intro S h hQ;simp only [exec] at h;exact wpIn_exit (hQ (.exit id) _ _ _ _ _ S Mid.refl rfl h)
 | .loop _,hf=>by cases hf
 | .ret,hf=>by cases hf
 | .rangeFunc ..,hf=>by cases hf
 | .scope _,hf=>by cases hf
 | .label _,hf=>by cases hf
 | .goto _,hf=>by cases hf
 | .refuse _,hf=>by cases hf
variable {A0:Nat->Prop}{μ:Nat->Loc}{H:List (Blk E)}{w:World}{env:List (zj E)}{a:Act}
theorem St.turn {A1 Ch:Nat->Prop}{w':World}(S:St (C:=C) (P:=P) G W0 none A0 μ H w env a) (hmem:∀id b o n c,xG (zn H id)=true->μ id= .blk b o n c->¬Ch b) (q:w.heap.size<=w'.heap.size) (hs:∀b,b<w.heap.size->¬Ch b->w'.heap[b]? =w.heap[b]?) (hch:∀b,Ch b->A0 b/\¬Kb b)
  (h2:∀b,b<w.heap.size->A1 b->A0 b) (h3:∀b,A1 b->b<w'.heap.size) (hK:∀b,Kb b->A1 b) (hG:∀g,G g->¬Ch g/\A1 g) (hM:∀d∈a.defers,∀b,d.target= .collected b->¬Ch b/\(A0 b->A1 b)):St (C:=C) (P:=P) G W0 none A1 μ H w' env a:=by
 have hav:∀b,b<w.heap.size->¬Av A0 μ H b->w'.heap[b]? =w.heap[b]? /\¬Av A1 μ H b:=fun b hb hA=>⟨hs b hb (fun h=>hA (.inl (hch b h))),fun h=>h.elim (fun h=>hA (.inl ⟨h2 b hb h.1,h.2⟩)) (fun h=>hA (.inr h))⟩
 have repm:∀ {p:zj E}{v:Value},Rp E A0 μ H w p v->Rp E A1 μ H w' p v:=fun h=>h.mono q hav (fun id hu=>⟨hu,rfl⟩);have repTm:∀ {τ:Ty}{v:Value}{x:Den E.T τ},yz E w (Av A0 μ H) τ v x->yz E w' (Av A1 μ H) τ v x:=fun h=>h.mono q hav;refine ⟨⟨h3,fun g hg=>⟨(hG g hg).2,(hs g (S.wd.low g (S.wd.glob g hg).1) (hG g hg).1).trans (S.wd.glob g hg).2⟩,hK⟩,⟨fun id=>?_,S.sim.inj,fun id b o n c ho hμ=>?_⟩,S.size,fun t p h=>repm (S.rep t p h),⟨fun d hdm=>?_,S.marks.2⟩,fun h=>(by cases h),fun k hk=>(by cases hk)⟩
 .have r:=S.sim.ok id;have hk':∀b o n c,xG (zn H id)=true->μ id= .blk b o n c->w'.heap[b]? =w.heap[b]? :=fun b o n c hm hμ =>
   hs b (xX.lt (S.sim.ok id) hm hμ) (hmem id b o n c hm hμ)
  generalize μ id=l at r hk';generalize zn H id=B at r hk';cases B with
  | free=>trivial
  | dead=>trivial
  | box wr cs =>
   obtain ⟨b,len,cap,c,hl,hbox,hsz',hr⟩:=r;exact ⟨b,len,cap,c,hl,hbox.keep (hk' b 0 len cap rfl hl),hsz',fun j hj=>⟨repm (hr j hj).1,(hr j hj).2⟩⟩
  | row wr e xs =>
   rcases r with ⟨b,off,cap,c,vs,hl,hbox,h1,h2,h3,h4⟩ | ⟨h1,a,h2⟩
   .exact .inl ⟨b,off,cap,c,vs,hl,hbox.keep (hk' b off xs.length cap rfl hl),h1,h2,h3,fun i hi=>repTm (h4 i hi)⟩
   .exact .inr ⟨h1,a,h2⟩
  | rowh e xs n' k =>
   obtain ⟨b,off,cap,c,vs,hl,hbox,h1,h2,h3,h4,h5,h6⟩:=r;exact ⟨b,off,cap,c,vs,hl,hbox.keep (hk' b off xs.length cap rfl hl),h1,h2,h3,h4,fun i hi hn=>repTm (h5 i hi hn),repm h6⟩
  | map wr es =>
   obtain ⟨b,ms,clock,hl,hm,hsz',hr⟩:=r;exact ⟨b,ms,clock,hl,(hk' b 0 0 0 rfl hl).trans hm,hsz',fun j hj=>⟨repm (hr j hj).1,repm (hr j hj).2⟩⟩
 .have:=S.sim.out id b o n c ho hμ;exact ⟨fun h=>this.1 (h2 b this.2 h),zBK this.2 q⟩
 .obtain ⟨D,e1,e2,e3,e4⟩:=S.marks.1 d hdm;exact ⟨D,e1,(hs D (zBP.1 e2).1 (hM d hdm D (by rw [e1])).1).trans e2,(hM d hdm D (by rw [e1])).2 e3,e4⟩
theorem z9.more {A1:Nat->Prop}{w':World}(S:z9 A0 μ H w) (q:w.heap.size<=w'.heap.size) (hs:∀b,b<w.heap.size->w'.heap[b]? =w.heap[b]?) (h2:∀b,b<w.heap.size->A1 b->A0 b) :
  z9 A1 μ H w'/\∀ {p:zj E}{v:Value},Rp E A0 μ H w p v->Rp E A1 μ H w' p v:=by
 have hav:∀b,b<w.heap.size->¬Av A0 μ H b->w'.heap[b]? =w.heap[b]? /\¬Av A1 μ H b:=fun b hb hA=>⟨hs b hb,fun h=>h.elim (fun h=>hA (.inl ⟨h2 b hb h.1,h.2⟩)) (fun h=>hA (.inr h))⟩
 have repm:∀ {p:zj E}{v:Value},Rp E A0 μ H w p v->Rp E A1 μ H w' p v:=fun h=>h.mono q hav (fun id hu=>⟨hu,rfl⟩);have repTm:∀ {τ:Ty}{v:Value}{x:Den E.T τ},yz E w (Av A0 μ H) τ v x->yz E w' (Av A1 μ H) τ v x:=fun h=>h.mono q hav;refine ⟨⟨fun id=>?_,S.inj,fun id b o n c ho hμ=>?_⟩,repm⟩
 .have r:=S.ok id;have hk':∀b o n c,xG (zn H id)=true->μ id= .blk b o n c->w'.heap[b]? =w.heap[b]? :=fun b o n c hm hμ=>hs b (xX.lt (S.ok id) hm hμ);generalize μ id=l at r hk';generalize zn H id=B at r hk';cases B with
  | free=>trivial
  | dead=>trivial
  | box wr cs =>
   obtain ⟨b,len,cap,c,hl,hbox,hsz',hr⟩:=r;exact ⟨b,len,cap,c,hl,hbox.keep (hk' b 0 len cap rfl hl),hsz',fun j hj=>⟨repm (hr j hj).1,(hr j hj).2⟩⟩
  | row wr e xs =>
   rcases r with ⟨b,off,cap,c,vs,hl,hbox,h1,h2,h3,h4⟩ | ⟨h1,a,h2⟩
   .exact .inl ⟨b,off,cap,c,vs,hl,hbox.keep (hk' b off xs.length cap rfl hl),h1,h2,h3,fun i hi=>repTm (h4 i hi)⟩
   .exact .inr ⟨h1,a,h2⟩
  | rowh e xs n' k =>
   obtain ⟨b,off,cap,c,vs,hl,hbox,h1,h2,h3,h4,h5,h6⟩:=r;exact ⟨b,off,cap,c,vs,hl,hbox.keep (hk' b off xs.length cap rfl hl),h1,h2,h3,h4,fun i hi hn=>repTm (h5 i hi hn),repm h6⟩
  | map wr es =>
   obtain ⟨b,ms,clock,hl,hm,hsz',hr⟩:=r;exact ⟨b,ms,clock,hl,(hk' b 0 0 0 rfl hl).trans hm,hsz',fun j hj=>⟨repm (hr j hj).1,repm (hr j hj).2⟩⟩
 .have:=S.out id b o n c ho hμ;exact ⟨fun h=>this.1 (h2 b this.2 h),zBK this.2 q⟩
theorem zq8 {Sh:wn}(hb:Sh.blks.all BK.owns=true) (ps:List (zj E)):∀j,xG (zn (yL id Sh ps).2 j)=true->ZY (zn (yL id Sh ps).2 j)=true:=by
 have one:∀(b:BK) (qs:List (zj E)),b.owns=true->xG (wS id b qs).1=true->ZY (wS id b qs).1=true:=by
  intro b qs hb hm;cases b with
  | box wr ks=>exact hb
  | map es=>cases hb
  | gone=>cases hm
  | row wr e =>
   cases qs with
   | nil=>cases hm
   | cons q qs =>
    simp only [wS] at hm ⊢;split
    .split
     .rfl
     .simp_all [xG]
    .simp_all [xG]
 have key:∀(bs:List BK) (qs:List (zj E)) (j:Nat),bs.all BK.owns=true->xG (zn (yF id bs qs) j)=true->ZY (zn (yF id bs qs) j)=true:=by
  intro bs
  induction bs with
  | nil=>intro qs j _ h;cases h
  | cons b bs ih =>
   intro qs j h hm;simp only [List.all_cons,zBl] at h;cases j with
   | zero=>exact one b qs h.1 hm
   | succ j=>exact ih _ j h.2 hm
 exact fun j=>key _ _ j hb
end
end Go.Pe
namespace Go.Pe
variable {E:yG}
def Y6 (P:Program) (G:Nat->Prop) (W0:World) (g:FuncId) (it:ZT E):Prop:=YV P g=true /\
 ∀(x:HL E.T it.inn.holes) (ys:List (Den E.T it.e)),it.F x=some ys->∃Cg:Cfg E,∀(k:YK {Cg with ye:=it.e,yd:=ys} P G W0) {A0:Nat->Prop}{μ:Nat->Loc}{w:World}{lb:List Value}{A:Nat->Prop}(m:Nat),
  Wd G W0 A0 w->z9 A0 μ (yL _root_.id it.inn (HL.toP it.inn.holes x)).2 w->RL (Rp E A0 μ (yL _root_.id it.inn (HL.toP it.inn.holes x)).2 w) (yL _root_.id it.inn (HL.toP it.inn.holes x)).1 lb ->
  k.J 0 A (Lv μ (yL _root_.id it.inn (HL.toP it.inn.holes x)).2) w->(∀b,A b->A0 b) ->
  CallsIn (Z0 none) m P g (#[.func (.yield k.y.toNat) #[] #[]]++lb.toArray) w fun e w'=>(∃v,e= .returned v)/\∃A' L',k.J ys.length A' L' w'
theorem zlp (w:World) (o:Obj) {b:Nat}(h:b<w.heap.size):(w.alloc o).heap[b]? =w.heap[b]? :=by
 show (w.heap.push o)[b]? =_;rw [zCU,ze]
theorem zlf {A B:Type}{f:B->A->Option A}:∀(xs ys:List B) (a:A),YI f (xs++ys) a=(YI f xs a).bind (YI f ys)
 | [],ys,a=>rfl
 | x::xs,ys,a=>by
  simp only [zCG,YI];cases f x a with
  | none=>rfl
  | some b=>exact zlf xs ys b
theorem zvf {A B:Type}{f:B->A->Option A}{ys:List B}{a z zf:A}{i:Nat}{y:B}(h:YI f ys a=some zf) (hi:ys[i]? =some y) (hz:YI f (ys.take i) a=some z):∃z',f y z=some z'/\YI f (ys.take (i+1)) a=some z':=by
 obtain ⟨hlt,rfl⟩:=zBt.1 hi;have e1:ys.take (i+1)=ys.take i++[ys[i]]:=by rw [zCO,hi];rfl
 have e2:ys=ys.take i++(ys[i]::ys.drop (i+1)):=by rw [<-zCt hlt,zCY]
 rw [e2,zlf,hz] at h;simp only [zBk,YI,zBw] at h;obtain ⟨z',h1,_⟩:=h;refine ⟨z',h1,?_⟩;rw [e1,zlf,hz];simp only [zBk,YI,h1]
section
variable {C:Cfg E}{P:Program}{G:Nat->Prop}{W0:World}{A0:Nat->Prop}{μ:Nat->Loc}{H:List (Blk E)}{w:World}{env:List (zj E)}{a:Act}
theorem St.entryA (S:St (C:=C) (P:=P) G W0 none A0 μ H w env a) {l:List Nat}{Sh:wn}{x:HL E.T Sh.holes}{ρ:Ren}{fz:List Nat}{kp:Ren}{Ac:Nat->Prop}(ab:zqs E A0 μ H w Sh x ρ fz (l.map fun t=>a.tmps.getD t undef) Ac) (hle:kp.le ρ) :
  St (C:=C) (P:=P) G W0 none Ac (ρ.loc μ) (Pe.entry env.length l Sh x).2 w (Pe.entry env.length l Sh x).1 a/\Far false kp A0 μ H w Ac (ρ.loc μ) (Pe.entry env.length l Sh x).2 w:=by
 obtain ⟨h1,h2⟩:=zri env.length l _ ab.rep;have keepk:∀k,kp.get k=some (some k)->Us (Pe.entry env.length l Sh x).2 k/\ρ.loc μ k=μ k:=fun k hk=>by
  have hg:=hle k _ hk;obtain ⟨b,hb1,hb2⟩:=ab.under k _ hg;have:=ab.bc k b hb1;rw [zd (by simp [hb2])] at this;obtain ⟨y,hy,hbc⟩:=this;rw [hg] at hy;injection hy with hy;subst hy;have hmem:xG (zn (yL id Sh (HL.toP Sh.holes x)).2 k)=true:=hbc.2.1;exact ⟨yA hmem,by simp only [Ren.loc,hg]⟩
 refine ⟨⟨⟨fun b hb=>?_,fun g hg=>⟨ab.up g (S.wd.glob g hg).1,(S.wd.glob g hg).2⟩,fun b hb=>ab.up b (S.wd.kb b hb)⟩,ab.sim,S.size.trans h1.symm,h2,S.marks.step (fun _ _ _=>rfl) ab.up,S.nomark,fun k hk=>by cases hk⟩,⟨yv.refl _,fun _ _ _ _=>rfl,fun b _ hb=>ab.lv b hb,ab.up,fun _ b _ h=>ab.down b h,fun k hk _=>keepk k hk⟩⟩;rcases ab.down b hb with h | ⟨id,o,n,c,hl,hm⟩
 .exact S.wd.low b h
 .exact (S.sim.out id b o n c (xy hl) hm).2
theorem zqs.mem {Sh:wn}{x:HL E.T Sh.holes}{ρ:Ren}{fz:List Nat}{vs:List Value}{Ac:Nat->Prop}(ab:zqs E A0 μ H w Sh x ρ fz vs Ac) {j b o n c:Nat}(hm:xG (zn (yL id Sh (HL.toP Sh.holes x)).2 j)=true) (hl:ρ.loc μ j= .blk b o n c) :
  ∃id,ρ.get j=some (some id)/\μ id= .blk b o n c/\xG (zn H id)=true/\(xu (zn (yL _root_.id Sh (HL.toP Sh.holes x)).2 j)=true->xu (zn H id)=true):=by
 have hlt:=wu (yA hm);rw [ab.len] at hlt;have:=ab.bc j _ (zBn hlt);split at this
 .rw [this] at hm;cases hm
 .obtain ⟨y,hy,hbc⟩:=this;cases y with
  | none=>simp only [Ren.loc,hy] at hl;cases hl
  | some id =>
   simp only [Ren.loc,hy] at hl;exact ⟨id,hy,hl,hbc.2.2.1,hbc.2.2.2.1⟩
theorem Mid.rep {A1:Nat->Prop}{μ':Nat->Loc}{H':List (Blk E)}{w':World}(m:Mid false A0 μ H w A0 μ' H' w') {p:zj E}{v:Value}(h:Rp E A0 μ H w p v):Rp E A0 μ' H' w' p v :=
 h.mono m.q.size (fun b hb hA=>⟨m.block rfl b hb (fun hl=>hA (.inr hl)),fun hA'=>hA'.elim (fun h=>hA (.inl h)) (fun hl=>hA (.inr (m.lv b hb hl)))⟩) m.used
theorem St.mark (S:St (C:=C) (P:=P) G W0 none A0 μ H w env a) {D:Nat}(hD:w.heap[D]? =some (.deferred (some []))) (hl:A0 D) (hg: ¬G D) (hne:∀d∈a.defers,d.target≠ .collected D):St (C:=C) (P:=P) G W0 none A0 μ H w env {a with defers:={target:= .collected D,args:= #[]}::a.defers}:=by
 refine ⟨S.wd,S.sim,S.size,S.rep,⟨fun d hd=>?_,List.pairwise_cons.2 ⟨fun d hd e=>hne d hd e.symm,S.marks.2⟩⟩,fun h=>(by cases h),fun k hk=>(by cases hk)⟩;rcases zBG.1 hd with rfl | hd
 .exact ⟨D,rfl,hD,hl,hg⟩
 .exact S.marks.1 d hd
theorem St.clear (S:St (C:=C) (P:=P) G W0 none A0 μ H w env a):St (C:=C) (P:=P) G W0 none A0 μ H w env {a with defers:=[]} :=
 ⟨S.wd,S.sim,S.size,S.rep,⟨fun d hd=>by simp at hd,List.Pairwise.nil⟩,fun h=>(by cases h),fun k hk=>(by cases hk)⟩
theorem ztU (hP:C.P=P) (hT:yX E.leaves C.P C.tab=true) (hS:Z8 C G W0) (hyl:C.yl=false) (hm:P.follows .mixedOrders=true) (hI:∀g it,C.iters g=some it->Y6 P G W0 g it) {f:Operand}{ps:Array Tmp}{as body:Code}
  {R:Type}{r:R}{K:Ex->List (zj E)->List (Blk E)->Option R}{Q:Exit->Act->World->Prop}{m:Nat}
  (S:St (C:=C) (P:=P) G W0 none A0 μ H w env a) (h:exec C (.rangeFunc f ps as body) R env H K=some r)
  (hQ:∀env' H' A1 μ' w' a',St (C:=C) (P:=P) G W0 none A1 μ' H' w' env' a'->env'.length=env.length->Far false C.kept A0 μ H w A1 μ' H' w'->K .normal env' H'=some r->Q .normal a' w'):(Code.rangeFunc f ps as body).wpIn (Z0 none) m P Q a w:=by
 simp only [exec] at h;split at h;rotate_left
 .cases h
 rename_i g caps t hev hps;split at h;rotate_left
 .cases h
 rename_i it l hit hl;split at h;rotate_left
 .cases h
 rename_i x ρ fz hrd;simp only [zBw] at h;obtain ⟨ys,hys,h⟩:=h;split at h;rotate_left
 .cases h
 rename_i z0 ρ2 fz2 hrd2;split at h;rotate_left
 .cases h
 rename_i hc;simp only [zBl] at hc;obtain ⟨⟨⟨⟨⟨hfa,hfb⟩,hap⟩,hap2⟩,_⟩,hown⟩:=hc;simp only [zBw] at h;obtain ⟨zf,hzf,h⟩:=h;have hf:=S.eval f;rw [hev] at hf;generalize hfv:a.eval f=fv at hf;cases hf with
 | fn _ _ cs hsz hcs =>
 obtain ⟨hcl,hcon⟩:=hI g it hit;obtain ⟨Cg,hcon⟩:=hcon x ys hys;obtain ⟨⟨Ac,ab⟩,_⟩:=UJ S.sim (RL.of_idx hsz hcs) hrd;obtain ⟨T1,S1,u1,u2,u3⟩:=zlh fz S.sim ab.rows;have Sm:=S.trans T1 S1;obtain ⟨⟨A1,ab2⟩,hle2⟩:=UJ Sm.sim (zig Sm l.slots) hrd2;rw [<-l.gi.law z0] at ab2;obtain ⟨S2,F2⟩:=Sm.entryA ab2 hle2;obtain ⟨D,hD⟩:∃D,D=w.heap.size:=⟨_,rfl⟩
 let Hi:List (Blk E):=(yL _root_.id it.inn (HL.toP it.inn.holes x)).2;let He:l.gi.G->List (Blk E):=fun z=>(Pe.entry env.length l.slots l.inn (l.gi.to z)).2;let Ee:l.gi.G->List (zj E):=fun z=>(Pe.entry env.length l.slots l.inn (l.gi.to z)).1;let LvI:Nat->Prop:=Lv (ρ.loc μ) Hi;have F1:∀b,LvI b->∃id o n c,id∈ρ.ids/\id∉fz/\xu (zn H id)=true/\μ id= .blk b o n c:=by
  rintro b ⟨j,o,n,c,hl,hm⟩;obtain ⟨id,g1,g2,g3,g4⟩:=ab.mem (yN hl) hm;exact ⟨id,o,n,c,Ren.get_ids g1,ab.apart j id g1,g4 hl,g2⟩
 have memH:∀id,xG (zn (upd H fz) id)=true->xG (zn H id)=true:=by
  intro id hm;by_cases hid:id∈fz
  .obtain ⟨wr,e,l',hB⟩:=ab.rows id hid;rw [hB];rfl
  .rw [<-u1 id hid];exact hm
 have F5:∀b,LvI b->∀j o n c,xG (zn (He (l.gi.of z0)) j)=true->ρ2.loc μ j≠ .blk b o n c:=by
  intro b hb j o n c hm hl;obtain ⟨id',o',n',c',g1,g2,g3,g4⟩:=F1 b hb;obtain ⟨id,k1,k2,k3,_⟩:=ab2.mem hm hl;exact S.sim.inj id' id b o' n' c' b o n c (ziu hap g1 (Ren.get_ids k1)) g3 (memH id k3) g4 k2 rfl
 have F6:∀b,LvI b->A1 b:=by
  intro b hb;obtain ⟨id',o',n',c',g1,g2,g3,g4⟩:=F1 b hb;have hlv:Lv μ (upd H fz) b:=⟨id',o',n',c',by rw [u1 id' g2];exact g3,g4⟩
  rcases ab2.rest b hlv (fun id hid o n c hμ=>by
   obtain ⟨wr,e,l',hB⟩:=ab2.rows id hid;exact S.sim.inj id' id b o' n' c' b o n c (ziu hap2 g1 hid) g3 (memH id (by rw [hB];rfl)) g4 hμ rfl) with h | ⟨j,o,n,c,h1,h2⟩
  .exact h
  .exact zk h2 (F5 b hb j o n c (yN h1))
 have F7:∀b,A1 b\/Lv (ρ2.loc μ) (He (l.gi.of z0)) b->(Ac b\/LvI b)/\b<D:=by
  have fromLv:∀b,Lv μ (upd H fz) b->(Ac b\/LvI b)/\b<D:=by
   rintro b ⟨id,o,n,c,hl,hμ⟩;have hnf:id∉fz:=fun hid=>by
    obtain ⟨e,l',hB⟩:=u2 id hid;rw [hB] at hl;cases hl
   rw [u1 id hnf] at hl;refine ⟨ab.rest b ⟨id,o,n,c,hl,hμ⟩ (fun id' hid' o' n' c' hμ'=>?_),by rw [hD];exact (S.sim.out id b o n c (xy hl) hμ).2⟩;obtain ⟨wr,e,l',hB⟩:=ab.rows id' hid';exact S.sim.inj id id' b o n c b o' n' c' (fun e=>hnf (e▸hid')) hl (by rw [hB];rfl) hμ hμ' rfl
  rintro b (h | h)
  .rcases ab2.down b h with h | h
   .exact ⟨.inl (ab.up b h),by rw [hD];exact S.wd.low b h⟩
   .exact fromLv b h
  .exact fromLv b (ab2.lv b h)
 have hLvH:∀b,LvI b->Lv μ H b:=fun b hb=>ab.lv b hb;have hAcD:∀b,Ac b->b<D:=fun b hb=>by
  rw [hD];rcases ab.down b hb with h | ⟨id,o,n,c,hl,hm⟩
  .exact S.wd.low b h
  .exact (S.sim.out id b o n c (xy hl) hm).2
 refine wpIn_rangeFunc ?_;intro fn _;obtain ⟨rec,hrec⟩:∃rec:LoopState->Loop,rec=fun st=>{state:=st,pending:=none,fn,tmps:=a.tmps,params:=ps,assign:=as,body,defers:=w.heap.size}:=⟨_,rfl⟩
 obtain ⟨w1,hw1⟩:∃w1,(w.alloc (.deferred (some []))).alloc (.loop (rec .ready))=w1:=⟨_,rfl⟩
 have hps':ps= #[t]:=by
  have:ps.toList=[t]:=hps;rw [<-this]
 have hsize1:w1.heap.size=D+2:=by rw [<-hw1,hD];simp
 have hold:∀b,b<D->w1.heap[b]? =w.heap[b]? :=fun b hb=>by
  rw [<-hw1];rw [zlp _ _ (by simp;omega),zlp _ _ (by omega)]
 have hL1:w1.heap[D+1]? =some (.loop (rec .ready)):=by
  rw [<-hw1,hD];have:=World.alloc_heap_new (w.alloc (.deferred (some []))) (.loop (rec .ready));rwa [World.size_alloc] at this
 have hD1:w1.heap[D]? =some (.deferred (some [])):=by
  rw [<-hw1,hD];exact (zlp _ _ (by simp)).trans (World.alloc_heap_new w _)
 have hq1:yv w w1:=by rw [<-hw1];exact (yv.alloc w _).trans (yv.alloc _ _)
 have hyl0:((D+1:Nat):Int).toNat=D+1:=zCh _;let As:Nat->Prop:=fun b=>Ac b\/b=D\/b=D+1;let Rd:=zjo C (exec C as) (exec C body) env.length l t it.e;have notBlk:∀ {Ax:Nat->Prop}{μx:Nat->Loc}{Hx:List (Blk E)}{W:World}{ex:List (zj E)}{ax:Act},St (C:=C) (P:=P) G W0 none Ax μx Hx W ex ax->(∃st,W.heap[D+1]? =some (.loop (rec st))) ->
   (∀id b o n c,xG (zn Hx id)=true->μx id= .blk b o n c->b≠D+1)/\(∀g,G g->g≠D+1)/\∀d∈ax.defers,∀b,d.target= .collected b->b≠D+1:=by
  intro Ax μx Hx W ex ax Sx ⟨st,hl⟩;refine ⟨fun id b o n c hm hμ e=>?_,fun g hg e=>?_,fun d hd b ht e=>?_⟩
  .subst e;have r:=Sx.sim.ok id;rw [hμ] at r;cases hB:zn Hx id with
   | free=>rw [hB] at hm;cases hm
   | dead=>rw [hB] at hm;cases hm
   | box wr cs =>
    rw [hB] at r;obtain ⟨b,len,cap,cc,e,⟨t',f',hh,_⟩,_⟩:=r;injection e with e;subst e;rw [hl] at hh;cases hh
   | row wr e xs =>
    rw [hB] at r;rcases r with ⟨b,off,cap,cc,vs,e,⟨t',f',hh,_⟩,_⟩ | ⟨_,_,e⟩
    .injection e with e;subst e;rw [hl] at hh;cases hh
    .cases e
   | rowh e xs n' k =>
    rw [hB] at r;obtain ⟨b,off,cap,cc,vs,e,⟨t',f',hh,_⟩,_⟩:=r;injection e with e;subst e;rw [hl] at hh;cases hh
   | map wr es =>
    rw [hB] at r;obtain ⟨b,ms,clock,e,hh,_⟩:=r;injection e with e;subst e;rw [hl] at hh;cases hh
  .have:=S.wd.low _ (S.wd.glob _ hg).1;omega
  .obtain ⟨D',e1,e2,_⟩:=Sx.marks.1 d hd;rw [e1] at ht;injection ht with ht;subst ht e;rw [hl] at e2;cases e2
 let J:Nat->(Nat->Prop)->(Nat->Prop)->World->Prop:=fun i A L W=>∃zz,YI Rd (ys.take i) (l.gi.of z0)=some zz/\∃(Bx:Nat->Prop) (μx:Nat->Loc),St (C:=C) (P:=P) G W0 none (fun b=>Bx b\/L b) μx (He zz) W (Ee zz) a/\Far false C.kept A0 μ H w Bx μx (He zz) W /\
  W.heap[D+1]? =some (.loop (rec .ready))/\W.heap[D]? =some (.deferred (some []))/\Bx D/\Bx (D+1)/\(∀b,Bx b\/Lv μx (He zz) b->A b)/\(∀b,A b->b<W.heap.size)/\(∀b,L b->¬A b)/\(∀b,A0 b->Bx b) /\
  (∀d∈a.defers,∀b,d.target= .collected b->¬L b)/\∀b,b<D->L b->LvI b
 have markD:∀d∈a.defers,∀b,d.target= .collected b->b<D:=by
  intro d hd b ht;obtain ⟨D',e1,e2,_⟩:=S.marks.1 d hd;rw [e1] at ht;injection ht with ht;subst ht;rw [hD];exact (zBP.1 e2).1
 have kD:∀b,Kb b->b<D:=fun b hk=>by rw [hD];exact S.wd.low b (S.wd.kb b hk)
 have low:∀ {i A L W},J i A L W->∀b,A b->b<W.heap.size:=by
  rintro i A L W ⟨zz,_,Bx,μx,_,_,_,_,_,_,_,j8,_⟩ b hb;exact j8 b hb
 have stable:∀ {i A L L' W W'},J i A L W->yv W W'->(∀b,b<W.heap.size->¬L b->W'.heap[b]? =W.heap[b]?)->(∀b,b<W.heap.size->L' b->L b)->(∀b,L' b->b<W'.heap.size/\¬A b)->J i A L' W':=by
  rintro i A L L' W W' ⟨zz,j0,Bx,μx,j1,j2,j3,j4,j5,j6,j7,j8,j9,j10,j11,j12⟩ hq hs hll hl';have hDs:D+1<W.heap.size:=(zBP.1 j3).1;refine ⟨zz,j0,Bx,μx,j1.turn (Ch:=L) (fun id b o n c hm hμ hL=>?_) hq.size hs (fun b h=>⟨.inr h,fun hk=>j9 b h (j7 b (.inl (j10 b (S.wd.kb b hk))))⟩) (fun b hb h=>h.elim .inl (fun h=>.inr (hll b hb h))) (fun b h=>?_) (fun b hk=>.inl (j10 b (S.wd.kb b hk))) (fun g hg=>?_) (fun d hd b ht=>⟨j11 d hd b ht,fun h=>h.elim .inl (fun h=>zk h (j11 d hd b ht))⟩),⟨j2.q.trans hq,fun _ b hb hnl=>?_,j2.lv,j2.up,j2.dn,j2.keep⟩,(hs _ hDs (fun h=>j9 _ h (j7 _ (.inl j6)))).trans j3,(hs _ (by omega) (fun h=>j9 _ h (j7 _ (.inl j5)))).trans j4,j5,j6,j7,fun b hb=>zBK (j8 b hb) hq.size,fun b h=>(hl' b h).2,j10,fun d hd b ht h=>j11 d hd b ht (hll b (by have:=markD d hd b ht;omega) h),fun b hb h=>j12 b hb (hll b (by omega) h)⟩
  .exact (j1.sim.out id b o n c (zq8 hown _ id hm) hμ).1 (.inr hL)
  .rcases h with h | h
   .exact zBK (j8 b (j7 b (.inl h))) hq.size
   .exact (hl' b h).1
  .have:=j10 g (S.wd.glob g hg).1;exact ⟨fun h=>j9 g h (j7 g (.inl this)),.inl this⟩
  .have hb':b<D:=by rw [hD];exact hb
   rw [hs b (by omega) (fun h=>hnl (hLvH b (j12 b hb' h)))];exact j2.block rfl b hb hnl
 have yield_:∀ {i A L W} (m:Nat) (v:Value) (z:Den E.T it.e),ys[i]? =some z->J i A L W->yz E W (fun b=>(A b/\¬Kb b)\/L b) it.e v z->YieldAt (Z0 none) m P (D+1) #[v] W fun r W'=>r= .returned (.bool true)/\∃A',J (i+1) A' L W'/\(∀b,A b->A' b) /\
   (∀b,A' b->A b\/W.heap.size<=b)/\yv W W'/\(∀b,b<W.heap.size->¬A b\/Kb b->W'.heap[b]? =W.heap[b]?)/\∀g,G g->W'.heap[g]? =W0.heap[g]? :=by
  rintro i A L W m v z hz ⟨zz,j0,Bx,μx,j1,j2,j3,j4,j5,j6,j7,j8,j9,j10,j11,j12⟩ hzr;obtain ⟨z',hz',hfold⟩:=zvf hzf hz j0;have hz':zjo C (exec C as) (exec C body) env.length l t it.e z zz=some z':=hz';unfold zjo at hz';have hDs:D+1<W.heap.size:=(zBP.1 j3).1;have hpar:(rec .ready).params= #[t]:=by rw [hrec];exact hps'
  have hy:=run_yield (P:=P) (args:= #[v]) j3 (by rw [hpar];rfl);have hfields:(rec .ready).fn=fn/\(rec .ready).tmps=a.tmps/\(rec .ready).assign=as/\(rec .ready).body=body:=by rw [hrec];exact ⟨rfl,rfl,rfl,rfl⟩
  rw [hfields.1,hfields.2.1,hfields.2.2.1,hfields.2.2.2,hpar] at hy;have htm:∀f:Array Value->Tmp×Value->Array Value,(∀a x y,f a (x,y)=a.setIfInBounds x y)->(#[t].zip #[v]).foldl f a.tmps=a.tmps.setIfInBounds t v:=fun f hf=>by rw [<-Array.foldl_toList];simp [hf]
  rw [htm _ (fun _ _ _=>rfl)] at hy;refine ⟨fn,_,as,body,hy,roundIn_of_wpIn (zgE none fn) ?_⟩;have own:∀id,xG (zn (He zz) id)=true->ZY (zn (He zz) id)=true:=zq8 hown _;have hlv:∀b,Lv μx (He zz) b->b<W.heap.size/\¬(Bx b\/L b):=by
   rintro b ⟨id,o,n,c,hl,hm⟩;have:=j1.sim.out id b o n c (xy hl) hm;exact ⟨this.2,this.1⟩
  have hzA:yz E W (Av (fun b=>Bx b\/L b) μx (He zz)) it.e v z:=hzr.less (fun b hb=>by
   rcases hb with ⟨h | h,hk⟩ | h
   .exact .inl ⟨j7 b (.inl h),hk⟩
   .exact .inr h
   .exact .inl ⟨j7 b (.inr h),fun hk=>(hlv b h).2 (.inl (j10 b (S.wd.kb b hk)))⟩)
  have Sr:=(j1.put (p:= .v it.e z) (v:=v) (.v _ _ _ hzA) (some t) rfl).clear;refine Uo (ro:=some (D+1)) hP hT hS hyl hm as hfa Sr hz' ?_;intro ex env1 H1 μ1 w2 a1 S3 M3 hl3 hk3;cases ex with
  | exit _=>cases hk3
  | ret=>cases hk3
  | normal =>
  simp only at hk3;have hl0: ¬Lv μx (He zz) (D+1):=fun h=>(hlv _ h).2 (.inl j6);have r2:w2.heap[D+1]? =some (.loop (rec .ready)):=(M3.block rfl _ hDs hl0).trans j3;have hst0:(rec .ready).state= .ready:=by rw [hrec]
  refine ⟨_,run_beginRound (P:=P) r2 hst0,?_⟩;have ebusy:({rec .ready with state:= .busy}:Loop)=rec .busy:=by rw [hrec]
  rw [ebusy];have hs2:D+1<w2.heap.size:=(zBP.1 r2).1;obtain ⟨n1,n2,n3⟩:=notBlk S3 ⟨_,r2⟩;obtain ⟨w2b,hw2b⟩:∃w2b,w2.putObj (D+1) (.loop (rec .busy))=w2b:=⟨_,rfl⟩
  rw [hw2b];have o2:∀b,b≠D+1->w2b.heap[b]? =w2.heap[b]? :=fun b hb=>by rw [<-hw2b];exact World.putObj_heap_other hb
  have z2:w2b.heap.size=w2.heap.size:=by rw [<-hw2b];simp
  have r2b:w2b.heap[D+1]? =some (.loop (rec .busy)):=by rw [<-hw2b];exact World.putObj_heap_same hs2
  have q2:yv w2 w2b:=by rw [<-hw2b];exact ⟨rfl,rfl,rfl,by simp⟩
  have S3b:St (C:=C) (P:=P) G W0 none (fun b=>Bx b\/L b) μ1 H1 w2b env1 a1 :=
   S3.turn (Ch:=fun b=>b=D+1) n1 (by omega) (fun b hb hne=>o2 b hne) (fun b h=>by subst h;exact ⟨.inl j6,fun hk=>by have:=kD _ hk;omega⟩) (fun b hb h=>h) (fun b h=>by have:=S3.wd.low b h;omega) (fun b hk=>.inl (j10 b (S.wd.kb b hk))) (fun g hg=>⟨n2 g hg,(S3.wd.glob g hg).1⟩) (fun d hd b ht=>⟨n3 d hd b ht,fun h=>h⟩)
  refine Uo (ro:=some (D+1)) hP hT hS hyl hm body hfb S3b hk3 ?_;intro ex env2 H2 μ2 w3 a2 S4 M4 hl4 hk4;cases ex with
  | exit _=>cases hk4
  | ret=>cases hk4
  | normal =>
  simp only [zBD] at hk4;obtain ⟨⟨z'',ρ3,fz3⟩,hrd3,rfl⟩:=hk4;have hlv1: ¬Lv μ1 H1 (D+1):=fun h=>hl0 (M3.lv _ hDs h);have r3:w3.heap[D+1]? =some (.loop (rec .busy)):=(M4.block rfl _ (by omega) hlv1).trans r2b;have hs3:D+1<w3.heap.size:=(zBP.1 r3).1;have eready:({rec .busy with state:= .ready,pending:=none}:Loop)=rec .ready:=by rw [hrec]
  have hend:=run_endRound (P:=P) none r3;simp only [Option.isNone_none,if_true] at hend;rw [eready] at hend;obtain ⟨w4,hw4⟩:∃w4,w3.putObj (D+1) (.loop (rec .ready))=w4:=⟨_,rfl⟩
  rw [hw4] at hend;have o4:∀b,b≠D+1->w4.heap[b]? =w3.heap[b]? :=fun b hb=>by rw [<-hw4];exact World.putObj_heap_other hb
  have z4:w4.heap.size=w3.heap.size:=by rw [<-hw4];simp
  have q4:yv w3 w4:=by rw [<-hw4];exact ⟨rfl,rfl,rfl,by simp⟩
  have qW:yv W w4:=(M3.q.trans q2).trans (M4.q.trans q4);have chain:∀b,b<W.heap.size->b≠D+1->¬Lv μx (He zz) b->w3.heap[b]? =W.heap[b]? :=by
   intro b hb hne hnl;have h1:=M3.q.size;rw [M4.block rfl b (by omega) (fun h=>hnl (M3.lv b hb h)),o2 b hne,M3.block rfl b hb hnl]
  have lvc:∀b,b<W.heap.size->Lv μ2 H2 b->Lv μx (He zz) b:=fun b hb h=>M3.lv b hb (M4.lv b (by have:=M3.q.size;omega) h);have S5:St (C:=C) (P:=P) G W0 none (fun b=>Bx b\/L b) μ2 H2 w3 (Ee zz) a:=by
   refine ⟨S4.wd,S4.sim,j1.size,fun t' p hp=>(j1.rep t' p hp).mono (by have:=M3.q.size;have:=M4.q.size;omega) (fun b hb hA=>⟨chain b hb (fun e=>hA (.inl ⟨.inl (e▸j6),fun hk=>by have:=kD b hk;omega⟩)) (fun h=>hA (.inr h)),fun hA'=>hA'.elim (fun h=>hA (.inl h)) (fun h=>hA (.inr (lvc b hb h)))⟩) (fun id hu=>?_),⟨fun d hd=>?_,j1.marks.2⟩,fun h=>(by cases h),fun k hk=>(by cases hk)⟩
   .obtain ⟨e1,e2⟩:=M3.used id hu;obtain ⟨e3,e4⟩:=M4.used id e1;exact ⟨e3,e4.trans e2⟩
   .obtain ⟨D',e1,e2,e3,e4⟩:=j1.marks.1 d hd;have hb:=markD d hd D' (by rw [e1]);exact ⟨D',e1,(chain D' (by omega) (by omega) (fun h=>(hlv _ h).2 e3)).trans e2,e3,e4⟩
  obtain ⟨m1,m2,m3⟩:=notBlk S5 ⟨_,r3⟩;have S6:St (C:=C) (P:=P) G W0 none (fun b=>Bx b\/L b) μ2 H2 w4 (Ee zz) a :=
   S5.turn (Ch:=fun b=>b=D+1) m1 (by omega) (fun b hb hne=>o4 b hne) (fun b h=>by subst h;exact ⟨.inl j6,fun hk=>by have:=kD _ hk;omega⟩) (fun b hb h=>h) (fun b h=>by have:=S5.wd.low b h;omega) (fun b hk=>.inl (j10 b (S.wd.kb b hk))) (fun g hg=>⟨m2 g hg,(S5.wd.glob g hg).1⟩) (fun d hd b ht=>⟨m3 d hd b ht,fun h=>h⟩)
  obtain ⟨⟨Ac3,ab3⟩,hle3⟩:=UJ S6.sim (zig S6 l.slots) hrd3;rw [<-l.gi.law z''] at ab3;obtain ⟨S7,F7'⟩:=S6.entryA ab3 hle3;rw [zeV] at S7 F7';have eA:(fun b=>(Ac3 b/\¬L b)\/L b)=Ac3:=by
   funext b;by_cases hL:L b
   .simp [hL,ab3.up b (.inr hL)]
   .simp [hL]
  have lvn:∀b,Lv μ2 H2 b->A b\/(W.heap.size<=b/\b<w4.heap.size):=by
   rintro b h;by_cases hb:b<W.heap.size
   .exact .inl (j7 b (.inr (lvc b hb h)))
   .obtain ⟨id,o,n,c,hl,hm⟩:=h;exact .inr ⟨by omega,(S6.sim.out id b o n c (xy hl) hm).2⟩
  have hBL:∀b,Bx b->¬L b:=fun b hb hL=>j9 b hL (j7 b (.inl hb));refine ⟨_,w4,hend,rfl,fun b=>A b\/(W.heap.size<=b/\b<w4.heap.size),⟨l.gi.of z'',hfold,fun b=>Ac3 b/\¬L b,ρ3.loc μ2,by rw [eA];exact S7,⟨j2.q.trans qW,fun _ b hb hnl=>?_,fun b hb h=>?_,fun b h=>⟨ab3.up b (.inl (j10 b h)),hBL b (j10 b h)⟩,fun _ b hb h=>?_,fun k hk hu=>?_⟩,by rw [<-hw4];exact World.putObj_heap_same hs3,?_,⟨ab3.up _ (.inl j5),hBL _ j5⟩,⟨ab3.up _ (.inl j6),hBL _ j6⟩,?_,?_,?_,fun b h=>⟨ab3.up b (.inl (j10 b h)),hBL b (j10 b h)⟩,j11,j12⟩,fun b h=>.inl h,fun b h=>h.elim .inl (fun h=>.inr h.1),qW,fun b hb hnA=>?_,fun g hg=>(S6.wd.glob g hg).2⟩
  .have hnx: ¬Lv μx (He zz) b:=fun h=>hnl (j2.lv b hb h);rw [o4 b (by omega),chain b (by omega) (by omega) hnx];exact j2.block rfl b hb hnl
  .exact j2.lv b hb (lvc b (by omega) (ab3.lv b h))
  .rcases ab3.down b h.1 with (h' | h') | h'
   .exact j2.dn rfl b hb h'
   .exact zk h' h.2
   .exact .inr (j2.lv b hb (lvc b (by omega) h'))
  .obtain ⟨e1,e2⟩:=j2.keep k hk hu;obtain ⟨e3,e4⟩:=M3.used k e1;obtain ⟨e5,e6⟩:=M4.used k e3;obtain ⟨e7,e8⟩:=F7'.keep k hk e5;exact ⟨e7,e8.trans (e6.trans (e4.trans e2))⟩
  .rw [o4 D (by omega),chain D (by omega) (by omega) (fun h=>(hlv _ h).2 (.inl j5))];exact j4
  .rintro b (⟨h,hnL⟩ | h)
   .rcases ab3.down b h with (h | h) | h
    .exact .inl (j7 b (.inl h))
    .exact zk h hnL
    .exact lvn b h
   .exact lvn b (ab3.lv b h)
  .rintro b (h | h)
   .have:=j8 b h;have:=qW.size;omega
   .exact h.2
  .rintro b hL (h | h)
   .exact j9 b hL h
   .have:=j1.wd.low b (.inr hL);omega
  .have hne:b≠D+1:=fun e=>hnA.elim (fun hnA=>hnA (e▸j7 _ (.inl j6))) (fun hk=>by have:=kD _ hk;omega);rw [o4 b hne,chain b hb hne (fun h=>hnA.elim (fun hnA=>hnA (j7 b (.inr h))) (fun hk=>(hlv b h).2 (.inl (j10 b (S.wd.kb b hk)))))]
 let k:YK {Cg with ye:=it.e,yd:=ys} P G W0:={y:=((D+1:Nat):Int),J:=J,low:=low,stable:=stable,yield_:=fun m v z hz hJ hr=>yield_ m v z hz hJ hr}
 have lvA0:∀b,LvI b->A0 b->False:=fun b hb ha=>by
  obtain ⟨id,o,n,c,hl,hμ⟩:=hLvH b hb;exact (S.sim.out id b o n c (xy hl) hμ).1 ha
 have hJ0:J 0 As LvI w1:=by
  refine ⟨l.gi.of z0,rfl,fun b=>(A1 b/\¬LvI b)\/b=D\/b=D+1,ρ2.loc μ,?_,⟨hq1,fun _ b hb hnl=>hold b (by omega),fun b hb h=>T1.lv b hb (ab2.lv b h),fun b h=>.inl ⟨ab2.up b h,fun hl=>lvA0 b hl h⟩,fun _ b hb h=>?_,fun k hk hu=>?_⟩,hL1,hD1,.inr (.inl rfl),.inr (.inr rfl),?_,?_,?_,fun b h=>.inl ⟨ab2.up b h,fun hl=>lvA0 b hl h⟩,?_,fun b _ h=>h⟩
  .refine S2.turn (Ch:=fun _=>False) (fun _ _ _ _ _ _ _ h=>h) hq1.size (fun b hb _=>hold b (by omega)) (fun b h=>h.elim) (fun b hb h=>?_) (fun b h=>?_) (fun b hk=>.inl (.inl ⟨ab2.up b (S.wd.kb b hk),fun h=>lvA0 b h (S.wd.kb b hk)⟩)) (fun g hg=>⟨fun h=>h,.inl (.inl ⟨ab2.up g (S.wd.glob g hg).1,fun h=>lvA0 g h (S.wd.glob g hg).1⟩)⟩) (fun _ _ b _=>⟨fun h=>h,fun h=>(Classical.em (LvI b)).elim .inr (fun hn=>.inl (.inl ⟨h,hn⟩))⟩)
   .rcases h with (h | h | h) | h
    .exact h.1
    .omega
    .omega
    .exact F6 b h
   .rcases h with (h | h | h) | h
    .have:=(F7 b (.inl h.1)).2;omega
    .omega
    .omega
    .have:=(F7 b (.inl (F6 b h))).2;omega
  .rcases h with h | h | h
   .exact (F7 b (.inl h.1)).1.elim (ab.down b) (fun hl=>zk hl h.2)
   .omega
   .omega
  .obtain ⟨e1,e2⟩:=F2.keep k hk (T1.used k hu).1;exact ⟨e1,e2⟩
  .rintro b ((h | h | h) | ⟨j,o,n,c,h1,h2⟩)
   .exact (F7 b (.inl h.1)).1.elim .inl (fun hl=>zk hl h.2)
   .exact .inr (.inl h)
   .exact .inr (.inr h)
   .exact (F7 b (.inr ⟨j,o,n,c,h1,h2⟩)).1.elim .inl (fun hl=>zk h2 (F5 b hl j o n c (yN h1)))
  .rintro b (h | h | h)
   .have:=hAcD b h;omega
   .omega
   .omega
  .rintro b hb (h | h | h)
   .obtain ⟨j,o,n,c,h1,h2⟩:=hb;exact (ab.sim.out j b o n c (xy h1) h2).1 h
   .have:=(F7 b (.inl (F6 b hb))).2;omega
   .have:=(F7 b (.inl (F6 b hb))).2;omega
  .intro d hd b ht hl;obtain ⟨D',e1,e2,e3,_⟩:=S.marks.1 d hd;rw [e1] at ht;injection ht with ht;subst ht;exact lvA0 _ hl e3
 refine ⟨D+1,[{target:= .collected D,args:= #[]}],w1,{target:= .fn (.func g) cs,args:= #[.func (.yield (D+1)) #[] #[]]},w1,g,#[.func (.yield (D+1)) #[] #[]]++cs,w1,?_,?_,?_,?_,fun h=>(by rw [zix] at h;cases h),?_⟩
 .rw [<-hw1,hrec,hD];exact run_enterLoop_outer _ _ _ _ _
 .simp only [resolve,hfv];simp [go_sem,rangeCall,hfv]
 .intro f' _;exact zgE none f'
 .simp only [invoke];exact zlZ hcl _
 .have hmore:=ab.sim.more (A1:=As) hq1.size (fun b hb=>hold b (by omega)) (fun b hb h=>by
   rcases h with h | h | h
   .exact h
   .omega
   .omega)
  have hcall:=hcon k (A0:=As) (μ:=ρ.loc μ) (w:=w1) (lb:=cs.toList) (A:=As) (m-1) ⟨fun b h=>low hJ0 b h,fun g hg=>⟨.inl (ab.up g (S.wd.glob g hg).1),(hold g (by rw [hD];exact S.wd.low g (S.wd.glob g hg).1)).trans (S.wd.glob g hg).2⟩,fun b hk=>.inl (ab.up b (S.wd.kb b hk))⟩ hmore.1 (ab.rep.mono fun _ _=>hmore.2) hJ0 (fun _ h=>h);have hargs:(#[.func (.yield k.y.toNat) #[] #[]]++cs.toList.toArray:Array Value)= #[.func (.yield (D+1)) #[] #[]]++cs:=by
   show (#[.func (.yield ((D+1:Nat):Int).toNat) #[] #[]]++cs.toList.toArray:Array Value)=_;rw [hyl0]
  rw [hargs] at hcall;refine hcall.mono ?_;rintro e w3 ⟨⟨v,rfl⟩,A',L',zz,j0,Bx,μx,j1,j2,j3,j4,j5,j6,j7,j8,j9,j10,j11,j12⟩;have ez:zz=zf:=by
   rw [zCP] at j0;have:some zz=some zf:=j0.symm.trans hzf;injection this
  subst ez;have hpend:(rec .ready).pending=none:=by rw [hrec]
  have hst:(rec .ready).state≠ .busy:=by rw [hrec];simp
  have hend:(Instr.endLoop (D+1)).run P w3= .ok none (w3.putObj (D+1) (.loop {rec .ready with state:= .exhausted})):=by
   rw [run_endLoop j3 hst];congr 1
  refine ⟨none,_,hend,?_⟩;have hDs:D+1<w3.heap.size:=(zBP.1 j3).1;obtain ⟨n1,n2,n3⟩:=notBlk j1 ⟨_,j3⟩;have S4:St (C:=C) (P:=P) G W0 none (fun b=>Bx b\/L' b) μx (He zz) (w3.putObj (D+1) (.loop {rec .ready with state:= .exhausted})) (Ee zz) a :=
   j1.turn (Ch:=fun b=>b=D+1) (fun id b o n c hm hμ=>n1 id b o n c hm hμ) (by simp) (fun b hb hne=>World.putObj_heap_other hne) (fun b h=>by subst h;exact ⟨.inl j6,fun hk=>by have:=kD _ hk;omega⟩) (fun b hb h=>h) (fun b h=>by have:=j1.wd.low b h;simpa using this) (fun b hk=>.inl (j10 b (S.wd.kb b hk))) (fun g hg=>⟨n2 g hg,(j1.wd.glob g hg).1⟩) (fun d hd b ht=>⟨n3 d hd b ht,fun h=>h⟩)
  have S5:=S4.mark (D:=D) ((World.putObj_heap_other (by omega)).trans j4) (.inl j5) (fun hg=>by have:=S.wd.low _ (S.wd.glob _ hg).1;omega) (fun d hd e=>by have:=markD d hd D e;omega);refine hQ _ _ (fun b=>Bx b\/L' b) _ _ _ S5 (zeV _ _ _ _) ⟨j2.q.trans ⟨rfl,rfl,rfl,by simp⟩,fun _ b hb hnl=>(World.putObj_heap_other (by omega)).trans (j2.block rfl b hb hnl),j2.lv,fun b h=>.inl (j2.up b h),fun _ b hb h=>h.elim (j2.dn rfl b hb) (fun hl=>.inr (hLvH b (j12 b (by omega) hl))),j2.keep⟩ h
end
end Go.Pe
namespace Go.Pe
variable {E:yG}
theorem zxW (C:Cfg E) {R:Type}{rid i fresh spare:Nat}{ops:Array Oper}{o:Oper}{env:List (zj E)}{H:List (Blk E)}{K:List (zj E)->List (Blk E)->List Nat->List Nat->Option R} :
  zex C rid i fresh spare ops o env H K=zex {C with yl:=false} rid i fresh spare ops o env H K:=rfl
theorem zqD (C:Cfg E) {R:Type}{rid spare:Nat}{ops:Array Oper}:∀(l:List Oper) (ms:List Nat) (i fresh:Nat) (log:List (Nat×Nat×Nat)) (env:List (zj E)) (H:List (Blk E)) (K:List (zj E)->List (Blk E)->Option R),
  XX C rid spare ops l ms i fresh log env H K=XX {C with yl:=false} rid spare ops l ms i fresh log env H K
 | [],ms,i,fresh,log,env,H,K=>by simp only [XX]
 | o::l,[],i,fresh,log,env,H,K=>by simp only [XX]
 | o::l,m::ms,i,fresh,log,env,H,K=>by
  simp only [XX,<-zxW C];congr 1;funext env' H' rs ws;split
  .exact zqD C l ms _ _ _ _ _ _
  .simp only [XO];split
   .exact zqD C l ms _ _ _ _ _ _
   .rfl
theorem zrK {R:Type}{ops:Array Oper}(hd:∀o∈ops.toList,o.dst≠some 0) {o:Oper}{env:List (zj E)}{f g:Bool->List (zj E)->Option R}(h:∀b env',env'[0]? =env[0]? ->f b env'=g b env'):Y7 ops o env f=Y7 ops o env g:=by
 unfold Y7;split
 .exact h _ _ rfl
 .split
  .rfl
  .rename_i j want _ d hj;have hd0:d≠0:=by
    rintro rfl;simp only [zBw] at hj;obtain ⟨oj,h1,h2⟩:=hj;exact hd oj (by rw [<-zB1] at h1;exact zBq h1) h2
   split
   .rename_i b hb;cases b with
    | true=>exact h _ _ (zBI hd0)
    | false=>exact h _ _ (zBI hd0)
   .exact h _ _ rfl
   .rfl
theorem zBa {env:List (zj E)}{d:Option Nat}(hd:d≠some 0) (p:zj E):(put env d p)[0]? =env[0]? :=by
 cases d with
 | none=>rfl
 | some d=>exact zBI (fun e=>hd (by rw [e]))
variable {C:Cfg E}
theorem ztm {R:Type}{rid i fresh spare:Nat}{ops:Array Oper}(hd:∀o∈ops.toList,o.dst≠some 0) {o:Oper}(ho:o.dst≠some 0) {env:List (zj E)}{H:List (Blk E)}{K K':List (zj E)->List (Blk E)->List Nat->List Nat->Option R}(h:∀env' H rs ws,env'[0]? =env[0]? ->K env' H rs ws=K' env' H rs ws) :
  zex C rid i fresh spare ops o env H K=zex C rid i fresh spare ops o env H K':=by
 unfold zex;refine zrK hd (fun b env' he=>?_);have hp:∀p H rs ws,K (put env' o.dst p) H rs ws=K' (put env' o.dst p) H rs ws:=fun p H rs ws=>h _ _ _ _ ((zBa ho p).trans he);simp only [hp]
theorem ziH {R:Type}{rid spare:Nat}{ops:Array Oper}(hd:∀o∈ops.toList,o.dst≠some 0) {K K':List (zj E)->List (Blk E)->Option R}:∀(l:List Oper) (ms:List Nat) (i fresh:Nat) (log:List (Nat×Nat×Nat)) (env:List (zj E)) (H:List (Blk E)),(∀o∈l,o.dst≠some 0)->(∀env' H,env'[0]? =env[0]? ->K env' H=K' env' H) ->
  XX C rid spare ops l ms i fresh log env H K=XX C rid spare ops l ms i fresh log env H K'
 | [],ms,i,fresh,log,env,H,hl,h=>by simp only [XX];exact h _ _ rfl
 | o::l,[],i,fresh,log,env,H,hl,h=>by simp only [XX]
 | o::l,m::ms,i,fresh,log,env,H,hl,h=>by
  simp only [XX];refine ztm hd (hl o (zBx ..)) (fun env' H' rs ws he=>?_);split
  .exact ziH hd l ms _ _ _ _ _ (fun o ho=>hl o (zBr _ ho)) (fun env2 H2 h2=>h env2 H2 (h2.trans he))
  .simp only [XO];split
   .exact ziH hd l ms _ _ _ _ _ (fun o ho=>hl o (zBr _ ho)) (fun env2 H2 h2=>h env2 H2 (h2.trans he))
   .rfl
theorem zrj (env:List (zj E)):(zbD env).length=env.length:=by cases env<;>simp [zbD]
theorem Z8.glob {G G':Nat->Prop}{W0 W0':World}(h:Z8 C G W0) (hg:∀g,G g->G' g/\W0'.heap[g]? =W0.heap[g]?):Z8 C G' W0' :=
 fun f s hs=>⟨(h f s hs).1,fun A0 μ w args x y wd S hr hy=>(h f s hs).2 A0 μ w args x y ⟨wd.low,fun g hG=>⟨(wd.glob g (hg g hG).1).1,(wd.glob g (hg g hG).1).2.trans (hg g hG).2⟩,wd.kb⟩ S hr hy⟩
open Classical in
theorem zvF {P:Program}(hP:C.P=P) {n:Nat}{G:Nat->Prop}{W0:World}{k:YK C P G W0}{A0:Nat->Prop}{μ:Nat->Loc}{H:List (Blk E)}{w:World}{env:List (zj E)}{a:Act}{fresh rid spare:Nat}{ops:Array Oper}(hT:yX E.leaves C.P C.tab=true) (hS:Z8 C G W0) {R:Type}{K:List (zj E)->List (Blk E)->Option R}{r:R}
  {Q:Exit->Act->World->Prop}(hreg:zeA ops=true) (hd:zoj ops=true) (S:St G W0 (some k) A0 μ H w env a) (h:XX C rid spare ops ops.toList (V9 ops.toList []) 0 fresh [] env H (fun env H=>K (zbD env) H)=some r)
  (hN:∀env' H' μ' w' a',St G W0 (some k) A0 μ' H' w' env' a'->Mid true A0 μ H w A0 μ' H' w'->env'.length=env.length->K env' H'=some r->Q .normal a' w') :
  wpAnyIn (Z0 none) n P .any ops Q ops.size (Array.replicate ops.size false) a w:=by
 have hd':=zmZ hd;rw [ziH (K':=fun env' H=>if env'[0]? =env[0]? then K (zbD env') H else none) hd' ops.toList _ _ _ _ _ _ hd' (fun env' H he=>by rw [zb he]),zqD C] at h;have hsub:∀g,G g->A0 g/\w.heap[g]? =W0.heap[g]? :=S.wd.glob;have hn:=S.nomark rfl;have S0:St (C:={C with yl:=false}) (P:=P) A0 w none A0 μ H w env a:=⟨⟨S.wd.low,fun g hg=>⟨hg,rfl⟩,S.wd.kb⟩,S.sim,S.size,S.rep,by rw [hn];exact ⟨fun d hd=>by simp at hd,List.Pairwise.nil⟩,fun _=>hn,fun k hk=>by cases hk⟩
 refine zjP (C:={C with yl:=false}) hP rfl hT (hS.glob hsub) hreg S0 h ?_;intro env' H' A1 μ' w' a' S' T hA hlen hk;obtain rfl:=hA rfl;simp only at hk;split at hk;rotate_left
 .cases hk
 rename_i he;have hnil:a'.defers=[]:=by
  cases hdf:a'.defers with
  | nil=>rfl
  | cons d ds =>
   obtain ⟨D,_,_,h3,h4⟩:=S'.marks.1 d (by rw [hdf];exact zBx ..);exact zk h3 h4
 refine hN (zbD env') H' μ' w' a' ⟨⟨S'.wd.low,fun g hg=>⟨(hsub g hg).1,((S'.wd.glob g (hsub g hg).1).2).trans (hsub g hg).2⟩,S'.wd.kb⟩,S'.sim,S'.size.trans (zrj _).symm,?_,by rw [hnil];exact ⟨fun d hd=>by simp at hd,List.Pairwise.nil⟩,fun _=>hnil,?_⟩ ⟨T.q,fun h=>(by cases h),T.lv,T.up,T.used⟩ ((zrj _).trans hlen) hk
 .intro t p hp;cases env' with
  | nil=>simp [zbD] at hp
  | cons q env' =>
   cases t with
   | zero=>exact S'.rep 0 p (by simpa [zbD] using hp)
   | succ t =>
    simp only [zbD,zCX,zBQ,zBD] at hp;obtain ⟨p',h1,rfl⟩:=hp;exact zuL (S'.rep (t+1) p' (by simpa using h1))
 .intro k' hk';injection hk' with hk';subst hk';obtain ⟨⟨tr,A,q1,q2,q3⟩,q5⟩:=S.ys k rfl;rw [<-he] at q1;cases env' with
  | nil=>simp at q1
  | cons q env' =>
   refine ⟨⟨tr,A,by simpa [zbD] using q1,k.stable q2 T.q (T.block rfl) T.lv ?_,q3⟩,fun t m i ht=>?_⟩
   .rintro b ⟨id,o,n,c,hl,hm⟩;have:=S'.sim.out id b o n c (xy hl) hm;exact ⟨this.2,fun ha=>this.1 (q3 b ha)⟩
   .cases t with
    | zero =>
     simp only [zbD,zCv,Option.some.injEq] at ht q1;rw [q1] at ht;injection ht with h1;exact h1.symm
    | succ t =>
     simp only [zbD,zCX,zBQ,zBD] at ht;obtain ⟨p',_,h2⟩:=ht;exact zk h2 zwL
end Go.Pe
namespace Go.Pe
variable {E:yG}
section
variable {C:Cfg E}{P:Program}{G:Nat->Prop}{W0:World}{yk:Option (YK C P G W0)}{A0:Nat->Prop}{μ:Nat->Loc}{H:List (Blk E)}{w:World}{env:List (zj E)}{a:Act}
theorem UI {b:Frame}{k:List Item}{cs:List Frame}{c:Code}:step P (lone (b.atR a (.code (.scope c)::k)) cs w)= .next (lone (b.atR a (.code c:: .inScope c::k)) cs w) :=
 step_lone_go (by simp [stepG,stepG.exec,Frame.atR])
theorem zrN {b:Frame}{k:List Item}{cs:List Frame}{c:Code}:step P (lone (b.atR a (.inScope c::k)) cs w)= .next (lone (b.atR a k) cs w) :=
 step_lone_go (by simp [stepG,stepG.exec,Frame.atR])
theorem zvx {F:Fence}{n:Nat}{Q:Exit->Act->World->Prop}{c:Code}(h:c.wpIn F n P (Exit.noGoto Q) a w):(Code.scope c).wpIn F n P Q a w:=by
 intro b k cs hro hb hr;have h0:(lone (b.atR a (.code (.scope c)::k)) cs w).fenced P F:=fenced_calm hb hr rfl;obtain ⟨e,a₁,w₁,hq,harr⟩:=h b (.inScope c::k) cs hro hb hr;cases e with
 | normal=>exact ⟨.normal,a₁,w₁,hq,.head h0 UI (StepsIn.trans harr (.one (fenced_calm hb hr rfl) zrN))⟩
 | exit id =>
  have hx:exitTo id (.inScope c::k)=exitTo id k:=by simp [exitTo]
  exact ⟨.exit id,a₁,w₁,hq,fun k' hk=>.head h0 UI (harr.1 k' (by rw [hx];exact hk)),
   fun hr' hk=>let ⟨k₁,h1,h2⟩:=harr.2 hr' (by rw [hx];exact hk);⟨k₁,h1,.head h0 UI h2⟩⟩
 | goto l=>exact hq.elim
 | ret=>exact ⟨_,a₁,w₁,hq,.of_steps (.one h0 UI) harr⟩
 | panic ch=>exact ⟨_,a₁,w₁,hq,.of_steps (.one h0 UI) harr⟩
 | outgrown=>exact ⟨_,a₁,w₁,hq,.of_steps (.one h0 UI) harr⟩
theorem Xu (hP:C.P=P) (hT:yX E.leaves C.P C.tab=true) (hS:Z8 C G W0) (hyl:C.yl=yk.isSome) (hm:P.follows .mixedOrders=true) (hI:∀g it,C.iters g=some it->Y6 P G W0 g it) (n:Nat):∀c:Code,znG C P G W0 yk n c
 | .skip=>fun S hn h hQ=>wpIn_skip (hQ .normal _ _ _ _ _ _ S hn Far.refl h)
 | .region rid ops draw=>by
  intro S hn h hQ;rename_i R r K A0 μ H w env a Q m;simp only [exec,ztR,XO,zp6,znL] at h;have e:∀H:List (Blk E),zn (H++List.replicate (zpG ops+1) .free)=zn H:=fun H=>zpy H _;split at h
  .cases h
  rename_i hc;simp only [zBl,zBC,not_and] at hc;have seq:draw=false\/C.yl=false->zsg C (zh0 _) rid (H.length+zpG ops) ops ops.toList 0 H.length env (H++List.replicate (zpG ops+1) .free) (fun env H=>K .normal env H)=some r->(Code.region rid ops false).wpIn (Z0 none) m P Q a w:=by
   intro _ h;refine wpIn_region ?_;rw [zCW,<-zCk];refine zkC hP hT hS hyl (fun _=>rfl) ops.toList 0 _ (fun k o hk=>by simpa using hk) (fun hy=>?_) (S.congr (e _)) h ?_
   .have:=hc (by rw [hyl];exact hy);exact zmZ (by simpa using this)
   .intro env' H' A1 μ' w' a' S' T hA hlen hk;exact hQ .normal _ _ _ _ _ _ S' (hlen.trans hn) ((Mid.long (e _) T).far (fun hf=>hA (by cases yk with | none=>rfl | some _=>cases hf))) hk
  cases draw with
  | false =>
   simp only [zBT,if_false] at h;exact seq (.inl rfl) h
  | true =>
   simp only [if_true] at h;split at h;rotate_left
   .cases h
   rename_i hreg;refine wpIn_region_any hm ?_;cases hyk:yk with
   | some k =>
    subst hyk;have hy:C.yl=true:=by rw [hyl];rfl
    simp only [hy,if_true] at h;have hd:=hc hy;have hd:zoj ops=true:=by simpa using hd
    refine zvF hP hT hS hreg hd ((S.congr (e _)).drew) h ?_;intro env' H' μ' w' a' S' T hlen hk;exact hQ .normal _ _ _ _ _ _ S' (hlen.trans hn) ((Mid.long (e _) (Mid.trans z3.drew.mid T)).far (fun _=>rfl)) hk
   | none =>
    subst hyk;have hy:C.yl=false:=by rw [hyl];rfl
    simp only [hy,zBT,if_false] at h;refine zjP hP hy hT hS hreg ((S.congr (e _)).drew) h ?_;intro env' H' A1 μ' w' a' S' T hA hlen hk;exact hQ .normal _ _ _ _ _ _ S' (hlen.trans hn) ((Mid.long (e _) (Mid.trans z3.drew.mid T)).far (fun _=>hA rfl)) hk
 | .seq x y=>by
  intro S hn h hQ;simp only [exec] at h;refine wpIn_seq (Xu hP hT hS hyl hm hI n x S hn h ?_);intro ex env' H' A1 μ' w' a' S' hn' F hk;cases ex with
  | normal=>exact Xu hP hT hS hyl hm hI n y S' hn' hk (fun ex env2 H2 A2 μ2 w2 a2 S2 hn2 F2 hk2=>hQ ex _ _ _ _ _ _ S2 hn2 (F.trans F2) hk2)
  | exit id=>exact hQ (.exit id) _ _ _ _ _ _ S' hn' F hk
  | ret=>exact hQ .ret _ _ _ _ _ _ S' hn' F hk
 | .cond c x y=>by
  intro S hn h hQ;simp only [exec] at h;split at h;rotate_left
  .cases h
  rename_i t hc;have hv:=S.eval c;rw [hc] at hv;have hv:=zkc hv;cases t with
  | true=>exact wpIn_cond_true hv (Xu hP hT hS hyl hm hI n x S hn h hQ)
  | false=>exact wpIn_cond_false hv (Xu hP hT hS hyl hm hI n y S hn h hQ)
 | .block id x=>by
  intro S hn h hQ;simp only [exec] at h;refine wpIn_block (Xu hP hT hS hyl hm hI n x S hn h ?_);intro ex env' H' A1 μ' w' a' S' hn' F hk;cases ex with
  | normal=>exact hQ .normal _ _ _ _ _ _ S' hn' F hk
  | exit j =>
   simp only at hk;split at hk
   .rename_i hj;have hj:=zBs hj;simp only [zjh,Exit.inBlock,hj,if_true];exact hQ .normal _ _ _ _ _ _ S' hn' F hk
   .rename_i hj;have hj:j≠id:=fun e=>hj (by subst e;simp);simp only [zjh,Exit.inBlock,zd hj];exact hQ (.exit j) _ _ _ _ _ _ S' hn' F hk
  | ret=>exact hQ .ret _ _ _ _ _ _ S' hn' F hk
 | .loop x=>by
  intro S hn h hQ;simp only [exec] at h;split at h;rotate_left
  .cases h
  rename_i l hl;split at h
  .cases h
  rename_i hys;split at h;rotate_left
  .cases h
  rename_i x0 ρ fz hrd;simp only [zBw] at h;obtain ⟨o,ho,h⟩:=h;have hy:yk.isSome=true->Uq l.slots l.inn.vals=true/\Uq l.bslots l.brk.vals=true/\Uq l.rslots l.ret.vals=true:=by
   intro hy;rw [hyl,hy] at hys;simp only [zCu,zBC,Bool.and_eq_false_iff,not_or,Bool.not_eq_false] at hys;exact ⟨hys.1.1,hys.1.2,hys.2⟩
  obtain ⟨A1,μ1,S1,F1⟩:=S.entry (fun h=>(hy h).1) hrd;rw [hn] at S1 F1 ho;rw [<-l.gi.law x0] at S1 F1;have ihx:znG C P G W0 yk n x:=Xu hP hT hS hyl hm hI n x;refine zvg ihx hy S1 ho ?_;intro A2 μ2 w2 a2;cases o with
  | again _=>exact fun h=>h
  | brk y =>
   rintro ⟨S2,F2⟩;simp only at h;rw [hn] at h;exact hQ (.exit l.brkId) _ _ _ _ _ _ S2 (zeV _ _ _ _) (F1.trans F2) h
  | ret y =>
   rintro ⟨S2,F2⟩;simp only at h;rw [hn] at h;exact hQ .ret _ _ _ _ _ _ S2 (zeV _ _ _ _) (F1.trans F2) h
 | .exit id=>by
  intro S hn h hQ;simp only [exec] at h;exact wpIn_exit (hQ (.exit id) _ _ _ _ _ _ S hn Far.refl h)
 | .ret=>by
  intro S hn h hQ;simp only [exec] at h;exact wpIn_ret (hQ .ret _ _ _ _ _ _ S hn Far.refl h)
 | .rangeFunc f ps as body=>by
  intro S hn h hQ;cases hyk:yk with
  | none =>
   subst hyk;exact ztU hP hT hS hyl hm hI S h (fun env' H' A1 μ' w' a' S' hl F hk=>hQ .normal _ _ _ _ _ _ S' (hl.trans hn) F hk)
  | some k =>
   exfalso;have hy:C.yl=true:=by rw [hyl,hyk];rfl
   simp only [exec,hy] at h;split at h;rotate_left
   .cases h
   split at h;rotate_left
   .cases h
   split at h;rotate_left
   .cases h
   simp only [zBw] at h;obtain ⟨ys,_,h⟩:=h;split at h;rotate_left
   .cases h
   simp at h
 | .scope x=>by
  intro S hn h hQ;simp only [exec] at h;refine zvx (Xu hP hT hS hyl hm hI n x S hn h ?_);intro ex env' H' A1 μ' w' a' S' hn' F hk;have:=hQ ex _ _ _ _ _ _ S' hn' F hk;cases ex<;>exact this
 | .label _=>by
  intro S hn h hQ;simp only [exec] at h;exact wpIn_label (hQ .normal _ _ _ _ _ _ S hn Far.refl h)
 | .goto _=>by intro S hn h hQ;simp [exec] at h
 | .refuse _=>by intro S hn h hQ;simp [exec] at h
end
end Go.Pe
namespace Go.Pe
variable {E:yG}
section
variable {C:Cfg E}{P:Program}{tab:List (Nat×TI)}{G:Nat->Prop}{W0:World}{yk:Option (YK C P G W0)}{A0:Nat->Prop}{μ:Nat->Loc}{H:List (Blk E)}{w:World}{env:List (zj E)}{a:Act}
def ze0 (tmps:Array Value):ResultVar->Sem Value
 | .tmp t=>pure (tmps.getD t undef)
 | .cell a t=>do loadVar t (<-asAddr (tmps.getD a undef))
theorem zgf {R:Type}{r:R}(hT:yX E.leaves P tab=true) (S:St G W0 yk A0 μ H w env a):∀(l:List ResultVar) {K:List (zj E)->Option R},zlj tab env H l K=some r ->
  ∃ps vs,(l.mapM (ze0 a.tmps)).run P w= .ok vs w/\RL (Rp E A0 μ H w) ps vs/\K ps=some r
 | [],K,h=>⟨[],[],by simp,RL.nil,h⟩
 | .tmp t::l,K,h=>by
  simp only [zlj] at h;obtain ⟨ps,vs,h1,h2,h3⟩:=zgf hT S l h;exact ⟨_,a.tmps.getD t undef::vs,by simp [ze0,h1,Sem.run_bind],RL.cons (S.slot t) h2,h3⟩
 | .cell c t::l,K,h=>by
  simp only [zlj] at h;split at h
  .rename_i i e' id k off hi he;split at h;rotate_left
   .cases h
   rename_i n e ha;have hs:=S.slot c;rw [he] at hs;obtain ⟨b,o,cs,l2,hv,hrun,hrep,hk⟩:=zm9 hT hi ha S.sim hs h;obtain ⟨ps,vs,h1,h2,h3⟩:=zgf hT S l hk;exact ⟨_,_::vs,by simp [ze0,h1,Sem.run_bind,hv,asAddr,hrun],RL.cons (.v _ _ _ hrep) h2,h3⟩
  rotate_left
  .cases h
  rename_i i id off hi he;split at h;rotate_left
  .cases h
  rename_i wr cs hB;have hs:=S.slot c;rw [he] at hs;generalize hv:a.tmps.getD c undef=v at hs;cases hs with
  | ptr _ _ b len cap hU hμ =>
   have ok:=S.sim.ok id;rw [hB] at ok;obtain ⟨b',len',cap',cc,hl,hbox,hsz,hr⟩:=ok;rw [hμ] at hl;injection hl with e1;subst e1;obtain ⟨hlen,p,hp,hk⟩:=zf0 h (zcL (RL.of_idx hsz (fun j hj=>(hr j hj).1)) off i.size);obtain ⟨ps,vs,h1,h2,h3⟩:=zgf hT S l hk;refine ⟨_,_::vs,?_,RL.cons hp h2,h3⟩;have hrun:=zcp hT hi w b off _ hlen (zlW hbox off i.size);simp [ze0,h1,Sem.run_bind,hv,asAddr,hrun]
theorem zm1 {fn:Func}{tmps:Array Value}{vs:List Value}(h:(fn.results.toList.mapM (ze0 tmps)).run P w= .ok vs w):(results fn tmps).run P w= .ok (znQ vs) w:=by
 have e:(results fn tmps)=(do let vs <-fn.results.mapM (ze0 tmps);pure (if h:vs.size=1 then vs[0] else .tuple vs)):=by
  unfold results;congr 1
 rw [e,Sem.run_bind];have e2:(fn.results.mapM (ze0 tmps)).run P w= .ok vs.toArray w:=by
  rw [Array.mapM_eq_mapM_toList,Sem.run_map];simp [h]
 rw [e2];simp only [Result.andThen_ok,Sem.run_pure];congr 1
 match vs with
 | []=>rfl
 | [v]=>rfl
 | u::v::r=>simp [znQ]
theorem St.start {ps:List (zj E)}{args:Array Value}{n:Nat}(wd:Wd G W0 A0 w) (S:z9 A0 μ H w) (hr:RL (Rp E A0 μ H w) ps args.toList) (hys:Ys yk A0 μ H w (ps++List.replicate (n-ps.length) .skip)) :
  St G W0 yk A0 μ H w (ps++List.replicate (n-ps.length) .skip) {tmps:=args++Array.replicate (n-args.size) undef,defers:=[]}:=by
 have hl:ps.length=args.size:=by have:=hr.1;simpa using this
 refine ⟨wd,S,by simp [hl],fun t p hp=>?_,⟨fun d hd=>by simp at hd,List.Pairwise.nil⟩,fun _=>rfl,hys⟩;have hu:(args++Array.replicate (n-args.size) undef).getD t undef=((args.toList++List.replicate (n-args.size) undef)[t]?).getD undef:=by
  rw [zBN];congr 1;rw [<-zB1];simp
 show Rp E A0 μ _ w p ((args++Array.replicate (n-args.size) undef).getD t undef);rw [hu];by_cases ht:t<ps.length
 .rw [zBM ht] at hp;have ht':t<args.toList.length:=by rw [<-hr.1];exact ht
  rw [zBM ht',zBn ht'];exact hr.2 t p _ hp (zBn ht')
 .rw [zBS (by omega)] at hp;have hp':=hp;rw [zCH] at hp;split at hp
  .injection hp with hp;subst hp;have:(args.toList++List.replicate (n-args.size) undef)[t]? =some undef:=by
    rw [zBS (by rw [<-hr.1];omega),zCH];rename_i hlt;rw [zb (by rw [<-hr.1,<-hl];exact hlt)]
   rw [this];exact .skip
  .cases hp
theorem zi1 {F:Fence}{n:Nat}{fn:Func}{tmps:Array Value}{R:Ending->World->Prop}:∀(ds:List Deferred) (w:World),(∀d∈ds,∃D,d={target:= .collected D,args:= #[]}/\w.heap[D]? =some (.deferred (some [])))->ds.Pairwise (fun d d'=>d.target≠d'.target) ->
  (∀w',yv w w'->(∀b,(∀d∈ds,d.target≠ .collected b)->w'.heap[b]? =w.heap[b]?)->∃v,(results fn tmps).run P w'= .ok v w'/\R (.returned v) w')->LeavesInM F n P fn tmps R ds .returning w
 | [],w,_,_,h=>h w (yv.refl _) (fun _ _=>rfl)
 | d::ds,w,hd,hp,h=>by
  obtain ⟨D,rfl,hD⟩:=hd d (zBx ..);obtain ⟨hp1,hp2⟩:=List.pairwise_cons.1 hp;refine ⟨by simp,.inl ⟨D,_,rfl,run_takeDeferred hD,?_⟩⟩;refine zi1 ds _ (fun d' hd'=>?_) hp2 (fun w' q hs=>h w' (yv.trans (show yv w (w.putObj D (.deferred none)) from ⟨rfl,rfl,rfl,by simp⟩) q) (fun b hb=>?_))
  .obtain ⟨D',e,hD'⟩:=hd d' (zBr _ hd');refine ⟨D',e,(World.putObj_heap_other (fun e'=>?_)).trans hD'⟩;have:=hp1 d' hd';rw [e,e'] at this;exact this rfl
  .rw [hs b (fun d' hd'=>hb d' (zBr _ hd'))];exact World.putObj_heap_other (fun e=>hb _ (zBx ..) (by rw [e]))
theorem St.forget (S:St (C:=C) (P:=P) G W0 none A0 μ H w env a):St (C:=C) (P:=P) (fun _=>False) W0 none A0 μ H w env a :=
 ⟨⟨S.wd.low,fun g hg=>hg.elim,S.wd.kb⟩,S.sim,S.size,S.rep,⟨fun d hd=>(S.marks.1 d hd).imp fun D h=>⟨h.1,h.2.1,h.2.2.1,fun h=>h⟩,S.marks.2⟩,fun h=>(by cases h),fun k hk=>(by cases hk)⟩
theorem zqV:∀(ks:List BK) (j k:Nat) (ws:List SK),ks[k]? =some (.box true ws)->(zgh ks j).get (j+k)=some (some (j+k))
 | [],j,k,ws,h=>by simp at h
 | b::ks,j,k,ws,h=>by
  cases k with
  | zero =>
   have h:b= .box true ws:=by simpa using h
   subst h;simp [zgh,Ren.get]
  | succ k =>
   have ih:=zqV ks (j+1) k ws (by simpa using h);have e:j+1+k=j+(k+1):=by omega
   rw [e] at ih;cases b with
   | box w ws' =>
    cases w with
    | true =>
     show (if Nat.beq j (j+(k+1))=true then _ else Ren.get (zgh ks (j+1)) (j+(k+1)))=_;rw [zd (by simp),ih]
    | false=>exact ih
   | row w e'=>exact ih
   | map es=>exact ih
   | gone=>exact ih
theorem V0.glob {G':Nat->Prop}{W0':World}{f:FuncId}{s:zM E}(h:V0 P G W0 f s) (hg:∀g,G g->G' g/\W0'.heap[g]? =W0.heap[g]?):V0 P G' W0' f s :=
 fun A0 μ w args x y wd S hr hy=>h A0 μ w args x y ⟨wd.low,fun g hG=>⟨(wd.glob g (hg g hG).1).1,(wd.glob g (hg g hG).1).2.trans (hg g hG).2⟩,wd.kb⟩ S hr hy
theorem Y6.glob {G':Nat->Prop}{W0':World}{g:FuncId}{it:ZT E}(h:Y6 P G W0 g it) (hg:∀g,G g->G' g/\W0'.heap[g]? =W0.heap[g]?):Y6 P G' W0' g it:=by
 refine ⟨h.1,fun x ys hx=>?_⟩;obtain ⟨Cg,hc⟩:=h.2 x ys hx;refine ⟨Cg,fun k A0 μ w lb A m wd S hr hJ hA=>?_⟩;let k':YK {Cg with ye:=it.e,yd:=ys} P G W0:={y:=k.y,J:=k.J,low:=k.low,stable:=k.stable,yield_:=fun m v z hz hJ hr=>YieldAt.mono (k.yield_ m v z hz hJ hr) fun r W' hR=>⟨hR.1,by
  obtain ⟨A',h1,h2,h3,h4,h5,h6⟩:=hR.2;exact ⟨A',h1,h2,h3,h4,h5,fun g hG=>(h6 g (hg g hG).1).trans (hg g hG).2⟩⟩}
 exact hc k' m ⟨wd.low,fun g hG=>⟨(wd.glob g (hg g hG).1).1,(wd.glob g (hg g hG).1).2.trans (hg g hG).2⟩,wd.kb⟩ S hr hJ hA
theorem zy5 (hP:C.P=P) (hT:yX E.leaves C.P C.tab=true) (hS:Z8 C G W0) (hyl:C.yl=false) (hm:P.follows .mixedOrders=true) (hI:∀g it,C.iters g=some it->Y6 P G W0 g it) {f:FuncId}{fn:Func}{c:Code}(hf:P.funcs[f]? =some fn) (hb:fn.body=some c) (s:zM E)
  (hk:C.kept=zgh s.inn.blks 0) (hn:s.inn.vals.length<=fn.ntmps) (hF:∀x y,s.F x=some y->zlU C fn s.inn s.out s.gi s.go x=some y):V0 P G W0 f s:=by
 intro A0 μ w args x y wd S hr hy;have hx:=hF (s.gi.of x) y hy;unfold zlU at hx;rw [hb,s.gi.law] at hx;simp only at hx;refine (callsIn_wide (n:=0)).1 (callsIn_of_wp_marks (F:=Fence.wide) hf hb trivial ?_);have hvl:(yL id s.inn (HL.toP s.inn.holes x)).1.length=s.inn.vals.length:=zaM _ _;have wd':Wd A0 w A0 w:=⟨wd.low,fun g hg=>⟨hg,rfl⟩,wd.kb⟩
 have hsub:∀g,G g->A0 g/\w.heap[g]? =W0.heap[g]? :=wd.glob;have S0:=St.start (C:=C) (P:=P) (yk:=none) (n:=fn.ntmps) wd' S hr (fun k hk=>by cases hk);refine Xu (yk:=none) hP hT (fun f s hs=>⟨(hS f s hs).1,(hS f s hs).2.glob hsub⟩) hyl hm (fun g it h=>(hI g it h).glob hsub) fn.ntmps c S0 (by simp only [zBz,zB8,hvl];omega) hx ?_;intro ex env' H' A1 μ' w' a' S' hn' F hK;have fin:zlj C.tab env' H' fn.results.toList (fun ps=>zvk s.inn s.out s.go ps H')=some y->LeavesInM Fence.wide 0 P fn a'.tmps (fun e w''=>∃vs A1 μ1,e= .returned (znQ vs)/\zyS A0 μ (yL id s.inn (HL.toP s.inn.holes x)).2 w s (s.go.to y) vs A1 μ1 w'') a'.defers .returning w':=by
  intro hK;refine zi1 _ _ (fun d hd=>?_) S'.marks.2 ?_
  .obtain ⟨D,e1,e2,_⟩:=S'.marks.1 d hd;exact ⟨D,e1,e2⟩
  intro w2 q hs;have obj:∀b,(∃d∈a'.defers,d.target= .collected b)->w'.heap[b]? =some (.deferred (some []))/\A1 b/\¬A0 b:=by
   rintro b ⟨d,hd,ht⟩;obtain ⟨D,e1,e2,e3,e4⟩:=S'.marks.1 d hd;rw [e1] at ht;injection ht with ht;subst ht;exact ⟨e2,e3,e4⟩
  have S2:St (C:=C) (P:=P) (fun _=>False) w none A1 μ' H' w2 env' {a' with defers:=[]}:=by
   refine (S'.forget.clear).turn (Ch:=fun b=>∃d∈a'.defers,d.target= .collected b) (fun id b o n c hm hμ hc=>?_) q.size (fun b hb hnc=>hs b (fun d hd ht=>hnc ⟨d,hd,ht⟩)) (fun b hc=>⟨(obj b hc).2.1,fun hk=>(obj b hc).2.2 (wd.kb b hk)⟩) (fun b _ h=>h) (fun b h=>zBK (S'.wd.low b h) q.size) S'.wd.kb (fun g hg=>hg.elim) (fun d hd=>by simp at hd);have h2:=(obj b hc).1;have r:=S'.sim.ok id;rw [hμ] at r;cases hB:zn H' id with
   | free=>rw [hB] at hm;cases hm
   | dead=>rw [hB] at hm;cases hm
   | box wr cs =>
    rw [hB] at r;obtain ⟨b,len,cap,cc,e,⟨t',f',hh,_⟩,_⟩:=r;injection e with e;subst e;rw [h2] at hh;cases hh
   | row wr e xs =>
    rw [hB] at r;rcases r with ⟨b,off,cap,cc,vs,e,⟨t',f',hh,_⟩,_⟩ | ⟨_,_,e⟩
    .injection e with e;subst e;rw [h2] at hh;cases hh
    .cases e
   | rowh e xs n' k =>
    rw [hB] at r;obtain ⟨b,off,cap,cc,vs,e,⟨t',f',hh,_⟩,_⟩:=r;injection e with e;subst e;rw [h2] at hh;cases hh
   | map wr es =>
    rw [hB] at r;obtain ⟨b,ms,clock,e,hh,_⟩:=r;injection e with e;subst e;rw [h2] at hh;cases hh
  have hnew:∀b,b<w.heap.size->¬Lv μ (yL id s.inn (HL.toP s.inn.holes x)).2 b->w2.heap[b]? =w.heap[b]? :=by
   intro b hb hnl;by_cases hc:∃d∈a'.defers,d.target= .collected b
   .exact ((F.dn rfl b hb (obj b hc).2.1).elim (obj b hc).2.2 hnl).elim
   .rw [hs b (fun d hd ht=>hc ⟨d,hd,ht⟩)];exact F.block rfl b hb hnl
  obtain ⟨ps,vs,h1,h2,h3⟩:=zgf (P:=P) (by rw [<-hP];exact hT) S2 _ hK;refine ⟨znQ vs,zm1 h1,vs,?_⟩;simp only [zvk,zBD] at h3;obtain ⟨⟨y',ρ,fz⟩,hrd,rfl⟩:=h3;obtain ⟨⟨Ac,ab⟩,hle⟩:=UJ S2.sim h2 hrd;rw [s.go.law];refine ⟨Ac,ρ.loc μ',rfl,ab.sim,ab.rep,⟨(F.q.trans q).os,(F.q.trans q).tape,(F.q.trans q).output,(F.q.trans q).size,hnew,fun b hb h=>F.lv b hb (ab.lv b h)⟩,fun b hb=>ab.up b (F.up b hb),fun b hb=>?_,?_⟩
  .rcases ab.down b hb with h | ⟨id,o,n,c,hl,hm⟩
   .exact S2.wd.low b h
   .exact (S2.sim.out id b o n c (xy hl) hm).2
  .intro j ws h4 _;have hg:=zqV s.inn.blks 0 j ws h4;simp only [Nat.zero_add] at hg;have hρ:=hle j _ hg;have hu:Us (yL id s.inn (HL.toP s.inn.holes x)).2 j:=by
    unfold Us;have hw:∀(bs:List BK) (qs:List (zj E)) (i:Nat) ws,bs[i]? =some (.box true ws)->xY (zn (yF id bs qs) i)=true:=by
     intro bs
     induction bs with
     | nil=>intro qs i ws h;simp at h
     | cons b bs ih =>
      intro qs i ws h;cases i with
      | zero=>simp at h;subst h;rfl
      | succ i=>exact ih _ i ws (by simpa using h)
    exact hw _ _ _ _ h4
   have hkeep:=F.keep j (by rw [hk];exact hg) hu;simp only [Ren.loc,hρ];exact hkeep.2
 cases ex with
 | normal=>exact fin hK
 | ret=>exact fin hK
 | exit id=>cases hK
theorem zpd {Cg:Cfg E}(hP:Cg.P=P) (hT:yX E.leaves Cg.P Cg.tab=true) (hS:Z8 Cg G W0) (hyl:Cg.yl=true) (hm:P.follows .mixedOrders=true) (hI:∀g it,Cg.iters g=some it->Y6 P G W0 g it) {g:FuncId}{fn:Func}{c:Code}(hc:YV P g=true) (hf:P.funcs[g]? =some fn) (hb:fn.body=some c)
  (it:ZT E) (hn:it.inn.vals.length+1<=fn.ntmps) (hv:it.inn.vals.all SK.notY=true)
  (hF:∀(n:Int) x ys,it.F x=some ys->zoR {Cg with ye:=it.e,yd:=ys} fn it.inn n x=some (ys.length:Int)):Y6 P G W0 g it:=by
 refine ⟨hc,fun x ys hy=>⟨Cg,fun k A0 μ w lb A m wd S hr hJ hA=>?_⟩⟩;have hx:=hF k.y x ys hy;unfold zoR at hx;rw [hb] at hx;simp only at hx;refine callsIn_of_wp_marks (F:=Z0 none) hf hb (zgE none g) ?_;have hvl:(yL id it.inn (HL.toP it.inn.holes x)).1.length=it.inn.vals.length:=zaM _ _;have htyp:=toP_typed (E:=E) it.inn.holes x;have hr':RL (Rp E A0 μ (yL id it.inn (HL.toP it.inn.holes x)).2 w) (.yld k.y 0::(yL id it.inn (HL.toP it.inn.holes x)).1) ((#[.func (.yield k.y.toNat) #[] #[]]++lb.toArray:Array Value)).toList:=by
  have:((#[.func (.yield k.y.toNat) #[] #[]]++lb.toArray:Array Value)).toList= .func (.yield k.y.toNat) #[] #[]::lb:=by simp
  rw [this];exact RL.cons (.yld _ _) hr
 have S0:=St.start (C:={Cg with ye:=it.e,yd:=ys}) (P:=P) (yk:=some k) (n:=fn.ntmps) wd S hr' (fun k' hk=>by
  injection hk with hk;subst hk;refine ⟨⟨0,A,rfl,hJ,hA⟩,fun t m' i ht=>?_⟩;cases t with
  | zero=>simp only [zCG,zCv,Option.some.injEq] at ht;injection ht with h1;exact h1.symm
  | succ t =>
   simp only [zCG,zCX] at ht;rcases zBE.1 (zBq ht) with h | h
   .exact zk rfl (ziL it.inn.vals _ hv htyp _ h m' i)
   .have:=zC0 h;cases this)
 refine Xu (C:={Cg with ye:=it.e,yd:=ys}) (yk:=some k) hP hT hS hyl hm hI fn.ntmps c S0 (by simp only [zBz,zB8,zBv,hvl];omega) hx ?_;intro ex env' H' A1 μ' w' a' S' hn' F hK;have fin:(if fn.results.isEmpty then (match (env'[0]?).getD .any with | .yld _ i=>some i | _=>none) else none)=some (ys.length:Int)->LeavesInM (Z0 none) m P fn a'.tmps (fun e w''=>(∃v,e= .returned v)/\∃A' L',k.J ys.length A' L' w'') a'.defers .returning w':=by
  intro hK;split at hK;rotate_left
  .cases hK
  rename_i hre;have hre:fn.results= #[]:=by simpa using hre
  obtain ⟨⟨tr,A',h1,h2,h3⟩,_⟩:=S'.ys k rfl;rw [h1] at hK;simp only [zCg,Option.some.injEq] at hK;have htr:tr=ys.length:=by omega
  subst htr;rw [S'.nomark rfl];refine zi1 [] w' (fun d hd=>by simp at hd) List.Pairwise.nil (fun w2 q hs=>?_);have hres:(fn.results.toList.mapM (ze0 a'.tmps)).run P w2= .ok [] w2:=by rw [hre];rfl
  refine ⟨znQ [],zm1 hres,⟨_,rfl⟩,A',Lv μ' H',?_⟩;refine k.stable h2 q (fun b hb _=>hs b (fun d hd=>by simp at hd)) (fun _ _ h=>h) (fun b hb=>?_);obtain ⟨id,o,n,c,hl,hm⟩:=hb;have:=S'.sim.out id b o n c (xy hl) hm;exact ⟨zBK this.2 q.size,fun ha=>this.1 (h3 b ha)⟩
 cases ex with
 | normal=>exact fin hK
 | ret=>exact fin hK
 | exit id=>cases hK
end
end Go.Pe
namespace Go.Pe
variable {E:yG}
def zh6:List (Nat×List (zM E))->Nat->List (zM E)
 | [],_=>[]
 | (f,l)::r,g=>if Nat.beq f g then l else zh6 r g
def zta:List (Nat×yf E)->Nat->Option (yf E)
 | [],_=>none
 | (f,l)::r,g=>if Nat.beq f g then some l else zta r g
def zy9:List (Nat×Nat)->Nat->Nat->Bool
 | [],_,_=>false
 | (a,b)::r,x,y=>(Nat.beq a x&&Nat.beq b y)||zy9 r x y
def ztJ:List (Nat×Nat×List Nat)->Nat->Nat->List Nat
 | [],_,_=>[0]
 | (a,b,l)::r,x,y=>if Nat.beq a x&&Nat.beq b y then l else ztJ r x y
def zj0:List (Nat×ZT E)->Nat->Option (ZT E)
 | [],_=>none
 | (f,l)::r,g=>if Nat.beq f g then some l else zj0 r g
def zvK (P:Program) (tab:List (Nat×TI)) (specs:List (Nat×List (zM E))) (loops:List (Nat×yf E)) (mv:List (Nat×Nat)) (kept:Ren) (pk:List (Nat×Nat×List Nat)) (its:List (Nat×ZT E)):Cfg E :=
 {P:=P,tab:=tab,specs:=zh6 specs,loops:=zta loops,mv:=zy9 mv,kept:=kept,pick:=ztJ pk,yl:=false,ye:= .bool,yd:=[],iters:=zj0 its}
def zcn (rid:Nat):Code->Option Code
 | .seq a b=>match zcn rid a with | some c=>some c | none=>zcn rid b
 | .cond _ a b=>match zcn rid a with | some c=>some c | none=>zcn rid b
 | .block _ a=>zcn rid a
 | .loop a=>if Nat.beq (zeQ a) rid then some a else zcn rid a
 | .rangeFunc _ _ a b=>match zcn rid a with | some c=>some c | none=>zcn rid b
 | _=>none
def xD (fn:Func) (rid:Nat):Code:=match fn.body with
 | some c=>(zcn rid c).getD .skip
 | none=>.skip
def UH (rid:Nat):Code->Option (Code×Code)
 | .seq a b=>match UH rid a with | some c=>some c | none=>UH rid b
 | .cond _ a b=>match UH rid a with | some c=>some c | none=>UH rid b
 | .block _ a=>UH rid a
 | .loop a=>UH rid a
 | .rangeFunc _ _ a b=>if Nat.beq (zeQ a) rid then some (a,b) else match UH rid a with | some c=>some c | none=>UH rid b
 | _=>none
def zz8 (fn:Func) (rid:Nat):Code:=match fn.body with
 | some c=>((UH rid c).map (·.1)).getD .skip
 | none=>.skip
def zxb (fn:Func) (rid:Nat):Code:=match fn.body with
 | some c=>((UH rid c).map (·.2)).getD .skip
 | none=>.skip
inductive Oks (P:Program) (G:Nat->Prop) (W0:World):List (Nat×List (zM E))->Prop
 | nil:Oks P G W0 []
 | skip (f:Nat) (r) (h:Oks P G W0 r):Oks P G W0 ((f,[])::r)
 | cons (f:Nat) (s:zM E) (ss r) (hc:YV P f=true) (hs:V0 P G W0 f s) (h:Oks P G W0 ((f,ss)::r)):Oks P G W0 ((f,s::ss)::r)
theorem Oks.at {P:Program}{G:Nat->Prop}{W0:World}{l:List (Nat×List (zM E))}(hl:Oks P G W0 l):∀f s,s∈zh6 l f->YV P f=true/\V0 P G W0 f s:=by
 induction hl with
 | nil=>intro f s h;simp [zh6] at h
 | skip g r h ih =>
  intro f s h;simp only [zh6] at h;split at h
  .simp at h
  .exact ih f s h
 | cons g t ts r hc hs h ih =>
  intro f s h;simp only [zh6] at h;split at h
  .rename_i he;have he:=zBs he;subst he;rcases zBG.1 h with rfl | h
   .exact ⟨hc,hs⟩
   .exact ih g s (by simp only [zh6,Nat.beq_refl,if_true];exact h)
  .rename_i he;exact ih f s (by simp only [zh6,zd he];exact h)
theorem zu5 {P:Program}{tab:List (Nat×TI)}{l:List (Nat×List (zM E))}{loops:List (Nat×yf E)}{mv:List (Nat×Nat)}{kept:Ren}{pk:List (Nat×Nat×List Nat)}{its:List (Nat×ZT E)}{G:Nat->Prop}{W0:World}
  (h:Oks P G W0 l):Z8 (zvK P tab l loops mv kept pk its) G W0:=fun f s hs=>h.at f s hs
inductive Its (P:Program) (G:Nat->Prop) (W0:World):List (Nat×ZT E)->Prop
 | nil:Its P G W0 []
 | cons (f:Nat) (s:ZT E) (r) (hs:Y6 P G W0 f s) (h:Its P G W0 r):Its P G W0 ((f,s)::r)
theorem Its.at {P:Program}{G:Nat->Prop}{W0:World}{l:List (Nat×ZT E)}(hl:Its P G W0 l):∀g it,zj0 l g=some it->Y6 P G W0 g it:=by
 induction hl with
 | nil=>intro f s h;cases h
 | cons g t r hs h ih =>
  intro f s h;simp only [zj0] at h;split at h
  .rename_i he;have he:=zBs he;subst he;injection h with h;subst h;exact hs
  .exact ih f s h
theorem zyH {P:Program}{tab:List (Nat×TI)}{l:List (Nat×List (zM E))}{loops:List (Nat×yf E)}{mv:List (Nat×Nat)}{kept:Ren}{pk:List (Nat×Nat×List Nat)}{its:List (Nat×ZT E)}{G:Nat->Prop}{W0:World}
  (h:Its P G W0 its):∀g it,(zvK P tab l loops mv kept pk its).iters g=some it->Y6 P G W0 g it:=h.at
end Go.Pe
namespace Go.Pe
variable {E:yG}
noncomputable def zlc (C:Cfg E) (fn:Func) (inn out:wn) (gi go:List Grp) (hi:ZG E gi=inn.holes) (ho:ZG E go=out.holes):zM E:={inn:=inn,out:=out,gi:=grp gi hi,go:=grp go ho,F:=zfB fun x=>zlU C fn inn out (grp gi hi) (grp go ho) x}
theorem zAm {C:Cfg E}{fn:Func}{inn out:wn}{gi go:List Grp}{hi:ZG E gi=inn.holes} {ho:ZG E go=out.holes} (x:GL E gi):(zlc C fn inn out gi go hi ho).F x=zlU C fn inn out (grp gi hi) (grp go ho) x:=congrFun (VI _) x
theorem zK {C:Cfg E}{fn:Func}{inn out:wn}{gi go:List Grp}{hi:ZG E gi=inn.holes} {ho:ZG E go=out.holes} {x:GL E gi}{y:Option (GL E go)}(h:zlU C fn inn out (grp gi hi) (grp go ho) x=y:=by kernel_rfl):(zlc C fn inn out gi go hi ho).F x=y:=(zAm x).trans h
theorem zxI {C:Cfg E}{G:Nat->Prop}{W0:World}(hT:yX E.leaves C.P C.tab=true) (hS:Z8 C G W0) (hyl:C.yl=false) (hI:∀g it,C.iters g=some it->Y6 C.P G W0 g it) (hm:C.P.follows .mixedOrders=true) {f:FuncId}{fn:Func}{inn out:wn}{gi go:List Grp}{hi:ZG E gi=inn.holes} {ho:ZG E go=out.holes} (hf:C.P.funcs[f]? =some fn) (hb:fn.body.isSome=true)
  (hk:C.kept=zgh inn.blks 0) (hn:Nat.ble inn.vals.length fn.ntmps=true):V0 C.P G W0 f (zlc C fn inn out gi go hi ho):=by
 obtain ⟨c,hc⟩:=Option.isSome_iff_exists.1 hb;exact zy5 rfl hT hS hyl hm hI hf hc (zlc C fn inn out gi go hi ho) hk (zB0 hn) (fun x y h=>(zAm x).symm.trans h)
end Go.Pe
