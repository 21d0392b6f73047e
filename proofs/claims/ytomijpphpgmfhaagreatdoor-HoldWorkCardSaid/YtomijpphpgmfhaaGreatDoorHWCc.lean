/- Own work of this seat: Fn, Gen. -/
import Derived.Test.YtomijpphpgmfhaaGreatDoorHWCb
import Derived.RangeFuncBound
set_option linter.unusedVariables false
set_option linter.unusedSimpArgs false
set_option linter.unnecessarySimpa false
set_option linter.unusedSectionVars false
set_option linter.deprecated false
namespace Go.Pe
variable {E:yj}
section
variable {C:Cfg E} {P:Program} {tab:List (Nat×TI)} {G:Nat→Prop} {W0:World} {yk:Option (YK C P G W0)} {A0:Nat→Prop} {μ:Nat→Loc} {H:List (Blk E)} {w:World} {env:List (ze E)} {a:Act}
def zgl (tmps:Array Value):ResultVar→Sem Value
 | .tmp t=>pure (tmps.getD t undef)
 | .cell a t=>do loadVar t (←asAddr (tmps.getD a undef))
theorem ziM {R:Type} {r:R} (hT:yx E.leaves P tab=true) (S:St G W0 yk A0 μ H w env a): ∀(l:List ResultVar) {K:List (ze E)→Option R},zpW tab env H l K=some r →
  ∃ps vs,(l.mapM (zgl a.tmps)).run P w= .ok vs w∧RL (Rp E A0 μ H w) ps vs∧K ps=some r
 | [],K,h=>⟨[],[],by simp,RL.nil,h⟩
 | .tmp t::l,K,h=>by
  simp only [zpW] at h
  obtain ⟨ps,vs,h1,h2,h3⟩:=ziM hT S l h
  exact ⟨_,a.tmps.getD t undef::vs,by simp [zgl,h1,Sem.run_bind],RL.cons (S.slot t) h2,h3⟩
 | .cell c t::l,K,h=>by
  simp only [zpW] at h
  split at h
  ·rename_i i e' id k off hi he
   split at h
   rotate_left
   ·cases h
   rename_i n e ha
   have hs:=S.slot c
   rw [he] at hs
   obtain ⟨b,o,cs,l2,hv,hrun,hrep,hk⟩:=zrp hT hi ha S.sim hs h
   obtain ⟨ps,vs,h1,h2,h3⟩:=ziM hT S l hk
   exact ⟨_,_::vs,by simp [zgl,h1,Sem.run_bind,hv,asAddr,hrun],RL.cons (.v _ _ _ hrep) h2,h3⟩
  rotate_left
  ·cases h
  rename_i i id off hi he
  split at h
  rotate_left
  ·cases h
  rename_i wr cs hB
  have hs:=S.slot c
  rw [he] at hs
  generalize hv:a.tmps.getD c undef=v at hs
  cases hs with
  | ptr _ _ b len cap hU hμ =>
   have ok:=S.sim.ok id
   rw [hB] at ok
   obtain ⟨b',len',cap',cc,hl,hbox,hsz,hr⟩:=ok
   rw [hμ] at hl;injection hl with e1;subst e1
   obtain ⟨hlen,p,hp,hk⟩:=zie h (zef (RL.of_idx hsz (fun j hj=>(hr j hj).1)) off i.size)
   obtain ⟨ps,vs,h1,h2,h3⟩:=ziM hT S l hk
   refine ⟨_,_::vs,?_,RL.cons hp h2,h3⟩
   have hrun:=zdl hT hi w b off _ hlen (zpT hbox off i.size)
   simp [zgl,h1,Sem.run_bind,hv,asAddr,hrun]
theorem zru {fn:Func} {tmps:Array Value} {vs:List Value} (h:(fn.results.toList.mapM (zgl tmps)).run P w= .ok vs w):(results fn tmps).run P w= .ok (zsl vs) w:=by
 have e:(results fn tmps)=(do let vs ←fn.results.mapM (zgl tmps);pure (if h:vs.size=1 then vs[0] else .tuple vs)):=by
  unfold results
  congr 1
 rw [e,Sem.run_bind]
 have e2:(fn.results.mapM (zgl tmps)).run P w= .ok vs.toArray w:=by
  rw [Array.mapM_eq_mapM_toList,Sem.run_map]
  simp [h]
 rw [e2]
 simp only [Result.andThen_ok,Sem.run_pure]
 congr 1
 match vs with
 | []=>rfl
 | [v]=>rfl
 | u::v::r=>simp [zsl]
theorem St.start {ps:List (ze E)} {args:Array Value} {n:Nat} (wd:Wd G W0 A0 w) (S:zM A0 μ H w) (hr:RL (Rp E A0 μ H w) ps args.toList) (hys:Ys yk A0 μ H w (ps++List.replicate (n-ps.length) .skip)) :
  St G W0 yk A0 μ H w (ps++List.replicate (n-ps.length) .skip) {tmps:=args++Array.replicate (n-args.size) undef,defers:=[]}:=by
 have hl:ps.length=args.size:=by have:=hr.1;simpa using this
 refine ⟨wd,S,by simp [hl],fun t p hp=> ?_,⟨fun d hd=>by simp at hd,List.Pairwise.nil⟩,fun _=>rfl,hys⟩
 have hu:(args++Array.replicate (n-args.size) undef).getD t undef=((args.toList++List.replicate (n-args.size) undef)[t]?).getD undef:=by
  rw [Array.getD_eq_getD_getElem?]
  congr 1
  rw [←Array.getElem?_toList]
  simp
 show Rp E A0 μ _ w p ((args++Array.replicate (n-args.size) undef).getD t undef)
 rw [hu]
 by_cases ht:t<ps.length
 ·rw [List.getElem?_append_left ht] at hp
  have ht':t<args.toList.length:=by rw [←hr.1];exact ht
  rw [List.getElem?_append_left ht',List.getElem?_eq_getElem ht']
  exact hr.2 t p _ hp (List.getElem?_eq_getElem ht')
 ·rw [List.getElem?_append_right (by omega)] at hp
  have hp':=hp
  rw [List.getElem?_replicate] at hp
  split at hp
  ·injection hp with hp;subst hp
   have:(args.toList++List.replicate (n-args.size) undef)[t]? =some undef:=by
    rw [List.getElem?_append_right (by rw [←hr.1];omega),List.getElem?_replicate]
    rename_i hlt
    rw [if_pos (by rw [←hr.1,←hl];exact hlt)]
   rw [this];exact .skip
  ·cases hp
theorem zmf {F:Fence} {n:Nat} {fn:Func} {tmps:Array Value} {R:Ending→World→Prop}: ∀(ds:List Deferred) (w:World),(∀d∈ds,∃D,d={target:= .collected D,args:= #[]}∧w.heap[D]? =some (.deferred (some [])))→ds.Pairwise (fun d d'=>d.target≠d'.target) →
  (∀w',z8 w w'→(∀b,(∀d∈ds,d.target≠ .collected b)→w'.heap[b]? =w.heap[b]?)→∃v,(results fn tmps).run P w'= .ok v w'∧R (.returned v) w')→LeavesInM F n P fn tmps R ds .returning w
 | [],w,_,_,h=>h w (z8.refl _) (fun _ _=>rfl)
 | d::ds,w,hd,hp,h=>by
  obtain ⟨D,rfl,hD⟩:=hd d (List.mem_cons_self ..)
  obtain ⟨hp1,hp2⟩:=List.pairwise_cons.1 hp
  refine ⟨by simp,.inl ⟨D,_,rfl,run_takeDeferred hD,?_⟩⟩
  refine zmf ds _ (fun d' hd'=> ?_) hp2 (fun w' q hs=>h w' (z8.trans (show z8 w (w.putObj D (.deferred none)) from ⟨rfl,rfl,rfl,by simp⟩) q) (fun b hb=> ?_))
  ·obtain ⟨D',e,hD'⟩:=hd d' (List.mem_cons_of_mem _ hd')
   refine ⟨D',e,(World.putObj_heap_other (fun e'=> ?_)).trans hD'⟩
   have:=hp1 d' hd'
   rw [e,e'] at this
   exact this rfl
  ·rw [hs b (fun d' hd'=>hb d' (List.mem_cons_of_mem _ hd'))]
   exact World.putObj_heap_other (fun e=>hb _ (List.mem_cons_self ..) (by rw [e]))
theorem St.forget (S:St (C:=C) (P:=P) G W0 none A0 μ H w env a):St (C:=C) (P:=P) (fun _=>False) W0 none A0 μ H w env a :=
 ⟨⟨S.wd.low,fun g hg=>hg.elim,S.wd.kb⟩,S.sim,S.size,S.rep,⟨fun d hd=>(S.marks.1 d hd).imp fun D h=>⟨h.1,h.2.1,h.2.2.1,fun h=>h⟩,S.marks.2⟩,fun h=>(by cases h),fun k hk=>(by cases hk)⟩
theorem zvU: ∀(ks:List BK) (j k:Nat) (ws:List SK),ks[k]? =some (.box true ws)→(ziI ks j).get (j+k)=some (some (j+k))
 | [],j,k,ws,h=>by simp at h
 | b::ks,j,k,ws,h=>by
  cases k with
  | zero =>
   have h:b= .box true ws:=by simpa using h
   subst h
   simp [ziI,Ren.get]
  | succ k =>
   have ih:=zvU ks (j+1) k ws (by simpa using h)
   have e:j+1+k=j+(k+1):=by omega
   rw [e] at ih
   cases b with
   | box w ws' =>
    cases w with
    | true =>
     show (if Nat.beq j (j+(k+1))=true then _ else Ren.get (ziI ks (j+1)) (j+(k+1)))=_
     rw [if_neg (by simp),ih]
    | false=>exact ih
   | row w e'=>exact ih
   | map es=>exact ih
   | gone=>exact ih
theorem Yk.glob {G':Nat→Prop} {W0':World} {f:FuncId} {s:zy E} (h:Yk P G W0 f s) (hg: ∀g,G g→G' g∧W0'.heap[g]? =W0.heap[g]?):Yk P G' W0' f s :=
 fun A0 μ w args x y wd S hr hy=>h A0 μ w args x y ⟨wd.low,fun g hG=>⟨(wd.glob g (hg g hG).1).1,(wd.glob g (hg g hG).1).2.trans (hg g hG).2⟩,wd.kb⟩ S hr hy
theorem Yz.glob {G':Nat→Prop} {W0':World} {g:FuncId} {it:Zf E} (h:Yz P G W0 g it) (hg: ∀g,G g→G' g∧W0'.heap[g]? =W0.heap[g]?):Yz P G' W0' g it:=by
 refine ⟨h.1,fun x ys hx=> ?_⟩
 obtain ⟨Cg,hc⟩:=h.2 x ys hx
 refine ⟨Cg,fun k A0 μ w lb A m wd S hr hJ hA=> ?_⟩
 let k':YK {Cg with ye:=it.e,yd:=ys} P G W0:={y:=k.y,J:=k.J,low:=k.low,stable:=k.stable,yield_:=fun m v z hz hJ hr=>YieldAt.mono (k.yield_ m v z hz hJ hr) fun r W' hR=>⟨hR.1,by
  obtain ⟨A',h1,h2,h3,h4,h5,h6⟩:=hR.2
  exact ⟨A',h1,h2,h3,h4,h5,fun g hG=>(h6 g (hg g hG).1).trans (hg g hG).2⟩⟩}
 exact hc k' m ⟨wd.low,fun g hG=>⟨(wd.glob g (hg g hG).1).1,(wd.glob g (hg g hG).1).2.trans (hg g hG).2⟩,wd.kb⟩ S hr hJ hA
theorem zDp (hP:C.P=P) (hT:yx E.leaves C.P C.tab=true) (hS:ZT C G W0) (hyl:C.yl=false) (hm:P.follows .mixedOrders=true) (hI: ∀g it,C.iters g=some it→Yz P G W0 g it) {f:FuncId} {fn:Func} {c:Code} (hf:P.funcs[f]? =some fn) (hb:fn.body=some c) (s:zy E)
  (hk:C.kept=ziI s.inn.blks 0) (hn:s.inn.vals.length≤fn.ntmps) (hF: ∀x y,s.F x=some y→zpu C fn s.inn s.out s.gi s.go x=some y):Yk P G W0 f s:=by
 intro A0 μ w args x y wd S hr hy
 have hx:=hF (s.gi.of x) y hy
 unfold zpu at hx
 rw [hb,s.gi.law] at hx
 simp only at hx
 refine (callsIn_wide (n:=0)).1 (callsIn_of_wp_marks (F:=Fence.wide) hf hb trivial ?_)
 have hvl:(ym id s.inn (HL.toP s.inn.holes x)).1.length=s.inn.vals.length:=zba _ _
 have wd':Wd A0 w A0 w:=⟨wd.low,fun g hg=>⟨hg,rfl⟩,wd.kb⟩
 have hsub: ∀g,G g→A0 g∧w.heap[g]? =W0.heap[g]? :=wd.glob
 have S0:=St.start (C:=C) (P:=P) (yk:=none) (n:=fn.ntmps) wd' S hr (fun k hk=>by cases hk)
 refine XC (yk:=none) hP hT (fun f s hs=>⟨(hS f s hs).1,(hS f s hs).2.glob hsub⟩) hyl hm (fun g it h=>(hI g it h).glob hsub) fn.ntmps c S0 (by simp only [List.length_append,List.length_replicate,hvl];omega) hx ?_
 intro ex env' H' A1 μ' w' a' S' hn' F hK
 have fin:zpW C.tab env' H' fn.results.toList (fun ps=>zBf s.inn s.out s.go ps H')=some y→LeavesInM Fence.wide 0 P fn a'.tmps (fun e w''=>∃vs A1 μ1,e= .returned (zsl vs)∧zxy A0 μ (ym id s.inn (HL.toP s.inn.holes x)).2 w s (s.go.to y) vs A1 μ1 w'') a'.defers .returning w':=by
  intro hK
  refine zmf _ _ (fun d hd=> ?_) S'.marks.2 ?_
  ·obtain ⟨D,e1,e2,_⟩:=S'.marks.1 d hd;exact ⟨D,e1,e2⟩
  intro w2 q hs
  have obj: ∀b,(∃d∈a'.defers,d.target= .collected b)→w'.heap[b]? =some (.deferred (some []))∧A1 b∧¬A0 b:=by
   rintro b ⟨d,hd,ht⟩
   obtain ⟨D,e1,e2,e3,e4⟩:=S'.marks.1 d hd
   rw [e1] at ht;injection ht with ht;subst ht
   exact ⟨e2,e3,e4⟩
  have S2:St (C:=C) (P:=P) (fun _=>False) w none A1 μ' H' w2 env' {a' with defers:=[]}:=by
   refine (S'.forget.clear).turn (Ch:=fun b=>∃d∈a'.defers,d.target= .collected b) (fun id b o n c hm hμ hc=> ?_) q.size (fun b hb hnc=>hs b (fun d hd ht=>hnc ⟨d,hd,ht⟩)) (fun b hc=>⟨(obj b hc).2.1,fun hk=>(obj b hc).2.2 (wd.kb b hk)⟩) (fun b _ h=>h) (fun b h=>Nat.lt_of_lt_of_le (S'.wd.low b h) q.size) S'.wd.kb (fun g hg=>hg.elim) (fun d hd=>by simp at hd)
   have h2:=(obj b hc).1
   have r:=S'.sim.ok id
   rw [hμ] at r
   cases hB:zi H' id with
   | free=>rw [hB] at hm;cases hm
   | dead=>rw [hB] at hm;cases hm
   | box wr cs =>
    rw [hB] at r
    obtain ⟨b,len,cap,cc,e,⟨t',f',hh,_⟩,_⟩:=r
    injection e with e;subst e;rw [h2] at hh;cases hh
   | row wr e xs =>
    rw [hB] at r
    rcases r with ⟨b,off,cap,cc,vs,e,⟨t',f',hh,_⟩,_⟩ | ⟨_,_,e⟩
    ·injection e with e;subst e;rw [h2] at hh;cases hh
    ·cases e
   | rowh e xs n' k =>
    rw [hB] at r
    obtain ⟨b,off,cap,cc,vs,e,⟨t',f',hh,_⟩,_⟩:=r
    injection e with e;subst e;rw [h2] at hh;cases hh
   | map wr es =>
    rw [hB] at r
    obtain ⟨b,ms,clock,e,hh,_⟩:=r
    injection e with e;subst e;rw [h2] at hh;cases hh
  have hnew: ∀b,b<w.heap.size→¬Lv μ (ym id s.inn (HL.toP s.inn.holes x)).2 b→w2.heap[b]? =w.heap[b]? :=by
   intro b hb hnl
   by_cases hc: ∃d∈a'.defers,d.target= .collected b
   ·exact ((F.dn rfl b hb (obj b hc).2.1).elim (obj b hc).2.2 hnl).elim
   ·rw [hs b (fun d hd ht=>hc ⟨d,hd,ht⟩)];exact F.block rfl b hb hnl
  obtain ⟨ps,vs,h1,h2,h3⟩:=ziM (P:=P) (by rw [←hP];exact hT) S2 _ hK
  refine ⟨zsl vs,zru h1,vs,?_⟩
  simp only [zBf,Option.map_eq_some_iff] at h3
  obtain ⟨⟨y',ρ,fz⟩,hrd,rfl⟩:=h3
  obtain ⟨⟨Ac,ab⟩,hle⟩:=UX S2.sim h2 hrd
  rw [s.go.law]
  refine ⟨Ac,ρ.loc μ',rfl,ab.sim,ab.rep,⟨(F.q.trans q).os,(F.q.trans q).tape,(F.q.trans q).output,(F.q.trans q).size,hnew,fun b hb h=>F.lv b hb (ab.lv b h)⟩,fun b hb=>ab.up b (F.up b hb),fun b hb=> ?_,?_⟩
  ·rcases ab.down b hb with h | ⟨id,o,n,c,hl,hm⟩
   ·exact S2.wd.low b h
   ·exact (S2.sim.out id b o n c (yH hl) hm).2
  ·intro j ws h4 _
   have hg:=zvU s.inn.blks 0 j ws h4
   simp only [Nat.zero_add] at hg
   have hρ:=hle j _ hg
   have hu:Us (ym id s.inn (HL.toP s.inn.holes x)).2 j:=by
    unfold Us
    have hw: ∀(bs:List BK) (qs:List (ze E)) (i:Nat) ws,bs[i]? =some (.box true ws)→xD (zi (yg id bs qs) i)=true:=by
     intro bs
     induction bs with
     | nil=>intro qs i ws h;simp at h
     | cons b bs ih =>
      intro qs i ws h
      cases i with
      | zero=>simp at h;subst h;rfl
      | succ i=>exact ih _ i ws (by simpa using h)
    exact hw _ _ _ _ h4
   have hkeep:=F.keep j (by rw [hk];exact hg) hu
   simp only [Ren.loc,hρ]
   exact hkeep.2
 cases ex with
 | normal=>exact fin hK
 | ret=>exact fin hK
 | exit id=>cases hK
theorem zoj {Cg:Cfg E} (hP:Cg.P=P) (hT:yx E.leaves Cg.P Cg.tab=true) (hS:ZT Cg G W0) (hyl:Cg.yl=true) (hm:P.follows .mixedOrders=true) (hI: ∀g it,Cg.iters g=some it→Yz P G W0 g it) {g:FuncId} {fn:Func} {c:Code} (hc:uc P g=true) (hf:P.funcs[g]? =some fn) (hb:fn.body=some c)
  (it:Zf E) (hn:it.inn.vals.length+1≤fn.ntmps) (hv:it.inn.vals.all SK.notY=true)
  (hF: ∀(n:Int) x ys,it.F x=some ys→zmH {Cg with ye:=it.e,yd:=ys} fn it.inn n x=some (ys.length:Int)):Yz P G W0 g it:=by
 refine ⟨hc,fun x ys hy=>⟨Cg,fun k A0 μ w lb A m wd S hr hJ hA=> ?_⟩⟩
 have hx:=hF k.y x ys hy
 unfold zmH at hx
 rw [hb] at hx
 simp only at hx
 refine callsIn_of_wp_marks (F:=ZR none) hf hb (zjJ none g) ?_
 have hvl:(ym id it.inn (HL.toP it.inn.holes x)).1.length=it.inn.vals.length:=zba _ _
 have htyp:=toP_typed (E:=E) it.inn.holes x
 have hr':RL (Rp E A0 μ (ym id it.inn (HL.toP it.inn.holes x)).2 w) (.yld k.y 0::(ym id it.inn (HL.toP it.inn.holes x)).1) ((#[.func (.yield k.y.toNat) #[] #[]]++lb.toArray:Array Value)).toList:=by
  have:((#[.func (.yield k.y.toNat) #[] #[]]++lb.toArray:Array Value)).toList= .func (.yield k.y.toNat) #[] #[]::lb:=by simp
  rw [this]
  exact RL.cons (.yld _ _) hr
 have S0:=St.start (C:={Cg with ye:=it.e,yd:=ys}) (P:=P) (yk:=some k) (n:=fn.ntmps) wd S hr' (fun k' hk=>by
  injection hk with hk;subst hk
  refine ⟨⟨0,A,rfl,hJ,hA⟩,fun t m' i ht=> ?_⟩
  cases t with
  | zero=>simp only [List.cons_append,List.getElem?_cons_zero,Option.some.injEq] at ht;injection ht with h1;exact h1.symm
  | succ t =>
   simp only [List.cons_append,List.getElem?_cons_succ] at ht
   rcases List.mem_append.1 (List.mem_of_getElem? ht) with h | h
   ·exact absurd rfl (zms it.inn.vals _ hv htyp _ h m' i)
   ·have:=List.eq_of_mem_replicate h;cases this)
 refine XC (C:={Cg with ye:=it.e,yd:=ys}) (yk:=some k) hP hT hS hyl hm hI fn.ntmps c S0 (by simp only [List.length_append,List.length_replicate,List.length_cons,hvl];omega) hx ?_
 intro ex env' H' A1 μ' w' a' S' hn' F hK
 have fin:(if fn.results.isEmpty then (match (env'[0]?).getD .any with | .yld _ i=>some i | _=>none) else none)=some (ys.length:Int)→LeavesInM (ZR none) m P fn a'.tmps (fun e w''=>(∃v,e= .returned v)∧∃A' L',k.J ys.length A' L' w'') a'.defers .returning w':=by
  intro hK
  split at hK
  rotate_left
  ·cases hK
  rename_i hre
  have hre:fn.results= #[]:=by simpa using hre
  obtain ⟨⟨tr,A',h1,h2,h3⟩,_⟩:=S'.ys k rfl
  rw [h1] at hK
  simp only [Option.getD_some,Option.some.injEq] at hK
  have htr:tr=ys.length:=by omega
  subst htr
  rw [S'.nomark rfl]
  refine zmf [] w' (fun d hd=>by simp at hd) List.Pairwise.nil (fun w2 q hs=> ?_)
  have hres:(fn.results.toList.mapM (zgl a'.tmps)).run P w2= .ok [] w2:=by rw [hre];rfl
  refine ⟨zsl [],zru hres,⟨_,rfl⟩,A',Lv μ' H',?_⟩
  refine k.stable h2 q (fun b hb _=>hs b (fun d hd=>by simp at hd)) (fun _ _ h=>h) (fun b hb=> ?_)
  obtain ⟨id,o,n,c,hl,hm⟩:=hb
  have:=S'.sim.out id b o n c (yH hl) hm
  exact ⟨Nat.lt_of_lt_of_le this.2 q.size,fun ha=>this.1 (h3 b ha)⟩
 cases ex with
 | normal=>exact fin hK
 | ret=>exact fin hK
 | exit id=>cases hK
end
end Go.Pe
namespace Go.Pe
variable {E:yj}
def zk3:List (Nat×List (zy E))→Nat→List (zy E)
 | [],_=>[]
 | (f,l)::r,g=>if Nat.beq f g then l else zk3 r g
def zxv:List (Nat×zL E)→Nat→Option (zL E)
 | [],_=>none
 | (f,l)::r,g=>if Nat.beq f g then some l else zxv r g
def zDY:List (Nat×Nat)→Nat→Nat→Bool
 | [],_,_=>false
 | (a,b)::r,x,y=>(Nat.beq a x&&Nat.beq b y)||zDY r x y
def zxg:List (Nat×Nat×List Nat)→Nat→Nat→List Nat
 | [],_,_=>[0]
 | (a,b,l)::r,x,y=>if Nat.beq a x&&Nat.beq b y then l else zxg r x y
def znC:List (Nat×Zf E)→Nat→Option (Zf E)
 | [],_=>none
 | (f,l)::r,g=>if Nat.beq f g then some l else znC r g
def zAI (P:Program) (tab:List (Nat×TI)) (specs:List (Nat×List (zy E))) (loops:List (Nat×zL E)) (mv:List (Nat×Nat)) (kept:Ren) (pk:List (Nat×Nat×List Nat)) (its:List (Nat×Zf E)):Cfg E :=
 {P:=P,tab:=tab,specs:=zk3 specs,loops:=zxv loops,mv:=zDY mv,kept:=kept,pick:=zxg pk,yl:=false,ye:= .bool,yd:=[],iters:=znC its}
def zdJ (rid:Nat):Code→Option Code
 | .seq a b=>match zdJ rid a with | some c=>some c | none=>zdJ rid b
 | .cond _ a b=>match zdJ rid a with | some c=>some c | none=>zdJ rid b
 | .block _ a=>zdJ rid a
 | .loop a=>if Nat.beq (zge a) rid then some a else zdJ rid a
 | .rangeFunc _ _ a b=>match zdJ rid a with | some c=>some c | none=>zdJ rid b
 | _=>none
def yq (fn:Func) (rid:Nat):Code:=match fn.body with
 | some c=>(zdJ rid c).getD .skip
 | none=> .skip
def UT (rid:Nat):Code→Option (Code×Code)
 | .seq a b=>match UT rid a with | some c=>some c | none=>UT rid b
 | .cond _ a b=>match UT rid a with | some c=>some c | none=>UT rid b
 | .block _ a=>UT rid a
 | .loop a=>UT rid a
 | .rangeFunc _ _ a b=>if Nat.beq (zge a) rid then some (a,b) else match UT rid a with | some c=>some c | none=>UT rid b
 | _=>none
def zCK (fn:Func) (rid:Nat):Code:=match fn.body with
 | some c=>((UT rid c).map (·.1)).getD .skip
 | none=> .skip
def zym (fn:Func) (rid:Nat):Code:=match fn.body with
 | some c=>((UT rid c).map (·.2)).getD .skip
 | none=> .skip
inductive Oks (P:Program) (G:Nat→Prop) (W0:World):List (Nat×List (zy E))→Prop
 | nil:Oks P G W0 []
 | skip (f:Nat) (r) (h:Oks P G W0 r):Oks P G W0 ((f,[])::r)
 | cons (f:Nat) (s:zy E) (ss r) (hc:uc P f=true) (hs:Yk P G W0 f s) (h:Oks P G W0 ((f,ss)::r)):Oks P G W0 ((f,s::ss)::r)
theorem Oks.at {P:Program} {G:Nat→Prop} {W0:World} {l:List (Nat×List (zy E))} (hl:Oks P G W0 l): ∀f s,s∈zk3 l f→uc P f=true∧Yk P G W0 f s:=by
 induction hl with
 | nil=>intro f s h;simp [zk3] at h
 | skip g r h ih =>
  intro f s h
  simp only [zk3] at h
  split at h
  ·simp at h
  ·exact ih f s h
 | cons g t ts r hc hs h ih =>
  intro f s h
  simp only [zk3] at h
  split at h
  ·rename_i he
   have he:=Nat.eq_of_beq_eq_true he
   subst he
   rcases List.mem_cons.1 h with rfl | h
   ·exact ⟨hc,hs⟩
   ·exact ih g s (by simp only [zk3,Nat.beq_refl,if_true];exact h)
  ·rename_i he
   exact ih f s (by simp only [zk3,if_neg he];exact h)
theorem ztZ {P:Program} {tab:List (Nat×TI)} {l:List (Nat×List (zy E))} {loops:List (Nat×zL E)} {mv:List (Nat×Nat)} {kept:Ren} {pk:List (Nat×Nat×List Nat)} {its:List (Nat×Zf E)} {G:Nat→Prop} {W0:World}
  (h:Oks P G W0 l):ZT (zAI P tab l loops mv kept pk its) G W0:=fun f s hs=>h.at f s hs
inductive Its (P:Program) (G:Nat→Prop) (W0:World):List (Nat×Zf E)→Prop
 | nil:Its P G W0 []
 | cons (f:Nat) (s:Zf E) (r) (hs:Yz P G W0 f s) (h:Its P G W0 r):Its P G W0 ((f,s)::r)
theorem Its.at {P:Program} {G:Nat→Prop} {W0:World} {l:List (Nat×Zf E)} (hl:Its P G W0 l): ∀g it,znC l g=some it→Yz P G W0 g it:=by
 induction hl with
 | nil=>intro f s h;cases h
 | cons g t r hs h ih =>
  intro f s h
  simp only [znC] at h
  split at h
  ·rename_i he
   have he:=Nat.eq_of_beq_eq_true he
   subst he
   injection h with h;subst h;exact hs
  ·exact ih f s h
theorem zxx {P:Program} {tab:List (Nat×TI)} {l:List (Nat×List (zy E))} {loops:List (Nat×zL E)} {mv:List (Nat×Nat)} {kept:Ren} {pk:List (Nat×Nat×List Nat)} {its:List (Nat×Zf E)} {G:Nat→Prop} {W0:World}
  (h:Its P G W0 its): ∀g it,(zAI P tab l loops mv kept pk its).iters g=some it→Yz P G W0 g it:=h.at
end Go.Pe
namespace Go.Pe
variable {E:yj}
noncomputable def zpJ (C:Cfg E) (fn:Func) (inn out:xG) (gi go:List Grp) (hi:Zx E gi=inn.holes) (ho:Zx E go=out.holes):zy E:={inn:=inn,out:=out,gi:=grp gi hi,go:=grp go ho,F:=zha fun x=>zpu C fn inn out (grp gi hi) (grp go ho) x}
theorem zFc {C:Cfg E} {fn:Func} {inn out:xG} {gi go:List Grp} {hi:Zx E gi=inn.holes} {ho:Zx E go=out.holes} (x:GL E gi):(zpJ C fn inn out gi go hi ho).F x=zpu C fn inn out (grp gi hi) (grp go ho) x:=congrFun (VX _) x
theorem zr {C:Cfg E} {fn:Func} {inn out:xG} {gi go:List Grp} {hi:Zx E gi=inn.holes} {ho:Zx E go=out.holes} {x:GL E gi} {y:Option (GL E go)} (h:zpu C fn inn out (grp gi hi) (grp go ho) x=y):(zpJ C fn inn out gi go hi ho).F x=y:=(zFc x).trans h
theorem zwr {C:Cfg E} {G:Nat→Prop} {W0:World} (hT:yx E.leaves C.P C.tab=true) (hS:ZT C G W0) (hyl:C.yl=false) (hI: ∀g it,C.iters g=some it→Yz C.P G W0 g it) (hm:C.P.follows .mixedOrders=true) {f:FuncId} {fn:Func} {inn out:xG} {gi go:List Grp} {hi:Zx E gi=inn.holes} {ho:Zx E go=out.holes} (hf:C.P.funcs[f]? =some fn) (hb:fn.body.isSome=true)
  (hk:C.kept=ziI inn.blks 0) (hn:Nat.ble inn.vals.length fn.ntmps=true):Yk C.P G W0 f (zpJ C fn inn out gi go hi ho):=by
 obtain ⟨c,hc⟩:=Option.isSome_iff_exists.1 hb
 exact zDp rfl hT hS hyl hm hI hf hc (zpJ C fn inn out gi go hi ho) hk (Nat.le_of_ble_eq_true hn) (fun x y h=>(zFc x).symm.trans h)
end Go.Pe
