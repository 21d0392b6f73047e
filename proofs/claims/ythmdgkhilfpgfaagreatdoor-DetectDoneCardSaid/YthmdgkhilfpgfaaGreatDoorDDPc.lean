/- Own work of this seat: PLaw17. -/
import Derived.Test.YthmdgkhilfpgfaaGreatDoorDDPa
import Derived.Test.YthmdgkhilfpgfaaGreatDoorDDPb
set_option linter.unusedVariables false
set_option linter.unusedSimpArgs false
set_option linter.unnecessarySimpa false
set_option linter.unusedSectionVars false
set_option linter.deprecated false
set_option maxRecDepth 20000
namespace Go.Pe.G
open Go.Pe
noncomputable section
namespace B17
def zb0 (n:Nat) (s:za):za:=goF (fun _ s=>zG s) 0 n s
theorem zcW {p:zb} {nb:Nat} (h:zA p) {s:za} (E:EOk p nb s) {n:Nat} (hn:n<1000000):yE s (n:Int)=some (zb0 n s,()):=by
 have e:=zxl (f:=Zp) (fun i s=>((n:Int),i,s,0,0,0,0,0,0,0,0,0,0#64,0,zt.mk 0#64 0#64,0,0,false,false,0,0,0,0,zB.mk 0 0,([]:List (List Int)),([]:List (List Int)),([]:List (List zk)),([]:List zp),([]:List (List Int)),([]:List (BitVec 64)),([]:List (List Int)),([]:List Int),([]:List Int),([]:List ze),([]:List zc),())) (fun s=>(s,0,0,0,0,0,0,0,0,0,0#64,0,zt.mk 0#64 0#64,0,0,false,false,0,0,0,0,zB.mk 0 0,([]:List (List Int)),([]:List (List Int)),([]:List (List zk)),([]:List zp),([]:List (List Int)),([]:List (BitVec 64)),([]:List (List Int)),([]:List Int),([]:List Int),([]:List ze),([]:List zc),())) n hn (fun _ s=>zG s) (EOk p nb) (fun _ s E=>zx2 h E)
  (fun i s hi E=>by
   show Zp ((n:Int),(i:Int),s,0,0,0,0,0,0,0,0,0,0#64,0,zt.mk 0#64 0#64,0,0,false,false,0,0,0,0,zB.mk 0 0,([]:List (List Int)),([]:List (List Int)),([]:List (List zk)),([]:List zp),([]:List (List Int)),([]:List (BitVec 64)),([]:List (List Int)),([]:List Int),([]:List Int),([]:List ze),([]:List zc),())=_
   rw [za0,zw,if_pos (by omega),zp2 h E,Option.bind_some,xR (by omega)])
  (fun s E=>by
   show Zp ((n:Int),(n:Int),s,0,0,0,0,0,0,0,0,0,0#64,0,zt.mk 0#64 0#64,0,0,false,false,0,0,0,0,zB.mk 0 0,([]:List (List Int)),([]:List (List Int)),([]:List (List zk)),([]:List zp),([]:List (List Int)),([]:List (BitVec 64)),([]:List (List Int)),([]:List Int),([]:List Int),([]:List ze),([]:List zc),())=_
   rw [za0,zw,if_neg (by omega)]) E
 rw [zml]
 exact congrArg (fun o=>Option.bind o _) e
theorem zzJ {p:zb} {nb:Nat} (h:zA p) {s:za} (E:EOk p nb s) (n:Nat):EOk p nb (zb0 n s):=ztU (Inv:=EOk p nb) (g:=fun _ s=>zG s) (fun _ s E=>zx2 h E) n 0 s E
theorem zn8 {s:za} (h:s.Done=true) (n:Nat):zb0 n s=s:=by
 have: ∀(n i:Nat),goF (fun _ s=>zG s) i n s=s:=by
  intro n
  induction n with
  | zero=>intro i;rfl
  | succ n ih =>
   intro i
   show goF _ (i+1) n (zG s)=s
   have e:zG s=s:=by unfold zG;rw [if_pos h]
   rw [e];exact ih (i+1)
 exact this n 0
theorem zAN {A B D:Type} {f:A→Option (xr A B D)} {x:A} {b:B} (h:f x=some (.brk b)):yH f x=some (.brk b):=by
 rw [UP]
 show wJ f (18446744073709551615+1) x=_
 rw [wJ,h];rfl
theorem zzu {A B D:Type} {f:A→Option (xr A B D)} {x y:A} {b:B} (h1:f x=some (.again y)) (h:f y=some (.brk b)):yH f x=some (.brk b):=by
 rw [UP]
 show wJ f (18446744073709551614+1+1) x=_
 rw [wJ,h1,Option.bind_some]
 dsimp only
 rw [wJ,h];rfl
def zlO:zb:=⟨1,0,2,1,1,4,2,2,⟨1,[[2],[0],[0]]⟩,1#64,[],[],[]⟩
def zf4:zb:=⟨1,0,2,1,1,4,2,2,⟨1,[[2],[0],[0]]⟩,0#64,[],[],[]⟩
def zB8:zb:=⟨1,1,2,1,1,4,2,2,⟨1,[[2],[0],[0]]⟩,1#64,[[1,0]],[[]],[]⟩
def zfT:zb:=⟨1,1,2,1,1,4,2,2,⟨1,[[2],[0],[0]]⟩,0#64,[[0]],[[]],[]⟩
theorem zAv:YJ []=some (zlO,()):=by
 rw [zdh,zAN (by rw [Wm];rfl)];rfl
theorem zzg:YJ [[]]=some (zB8,()):=by
 rw [zdh,zzu (by rw [Wm,zw,if_pos (by decide),wT (by decide),Option.bind_some,vn (by decide)];simp only [Int.toNat_zero,List.getElem?_cons_zero,Option.bind_some];rw [wT (by decide),Option.bind_some,z9 (by decide) (by decide)]) (by rw [Wm,zw,if_neg (by decide)])];rfl
theorem zmz:zA zlO:=by
 constructor
 case objs=>intro o ho;simp [zlO] at ho ⊢;rcases ho with rfl | rfl | rfl<;>simp
 case roots=>exact ⟨1,by decide,by decide,by decide⟩
 case reg=>intro r hr;cases hr
 case prog=>intro k r ops hr;cases hr
 all_goals first | decide | rfl
theorem zc4:zA zf4:=by
 constructor
 case objs=>intro o ho;simp [zf4] at ho ⊢;rcases ho with rfl | rfl | rfl<;>simp
 case roots=>exact ⟨0,by decide,by decide,by decide⟩
 case reg=>intro r hr;cases hr
 case prog=>intro k r ops hr;cases hr
 all_goals first | decide | rfl
theorem Z3:zA zfT:=by
 constructor
 case objs=>intro o ho;simp [zfT] at ho ⊢;rcases ho with rfl | rfl | rfl<;>simp
 case roots=>exact ⟨0,by decide,by decide,by decide⟩
 case reg=>intro r hr;simp [zfT] at hr ⊢;subst hr;simp
 case prog =>
  intro k r ops hr ho
  have:ops=[]:=by
   cases k with
   | zero=>injection ho with ho;exact ho.symm
   | succ k=>cases ho
  subst this
  exact ⟨by decide,fun o h=>by cases h⟩
 all_goals first | decide | rfl
theorem zuy:V2=some (true,()):=by
 have E0:=zsf zmz
 have E1:=zsf zc4
 have E2:=zsf Z3
 have a9:yE (yM zlO) 9=some (zb0 9 (yM zlO),()):=zcW zmz E0 (n:=9) (by decide)
 have b5:yE (yM zf4) 5=some (zb0 5 (yM zf4),()):=zcW zc4 E1 (n:=5) (by decide)
 have b6:yE (yM zf4) 6=some (zb0 6 (yM zf4),()):=zcW zc4 E1 (n:=6) (by decide)
 have d6:(zb0 6 (yM zf4)).Done=true:=by decide +kernel
 have F1:=zzJ zc4 E1 6
 have b9:yE (zb0 6 (yM zf4)) 3=some (zb0 6 (yM zf4),()):=by rw [←zn8 d6 3];rw [zn8 d6 3];exact (zcW zc4 F1 (n:=3) (by decide)).trans (by rw [zn8 d6])
 have c9:yE (yM zfT) 9=some (zb0 9 (yM zfT),()):=zcW Z3 E2 (n:=9) (by decide)
 have G0:=zzJ Z3 E2 9
 have m1:=zdO Z3 G0 1
 have G1:=zkP Z3 G0 1
 have m2:=zdO Z3 G1 1
 have G2:=zkP Z3 G1 1
 have m3:=zdO Z3 G2 1
 have G3:=zkP Z3 G2 1
 have v4:yE (zu (zu (zu (zb0 9 (yM zfT)) 1) 1) 1) 4=some (zb0 4 (zu (zu (zu (zb0 9 (yM zfT)) 1) 1) 1),()):=zcW Z3 G3 (n:=4) (by decide)
 have u4:yE (zb0 9 (yM zfT)) 4=some (zb0 4 (zb0 9 (yM zfT)),()):=zcW Z3 G0 (n:=4) (by decide)
 have n1:XO {zlO with Roots:=0#64}=some (yM zf4,()):=zkM zc4
 have n2:XO {zB8 with Roots:=0#64,Regs:=[[0]]}=some (yM zfT,()):=zkM Z3
 rw [zjF,zAv]
 simp only [Option.bind_some,zzg,zkM zmz,n1,n2,a9,b5,b6,b9,c9,m1,m2,m3,v4,u4,zx6 F1.small]
 decide +kernel
def zx1 (s:za) (b:BitVec 8):Int:=(b.toNat:Int).tmod (1+(s.Ws.length:Int)+(s.Ms.length:Int))
theorem zBY {p:zb} {nb:Nat} (h:zA p) {s:za} (E:EOk p nb s) (b:BitVec 8):zb4 s b=some (uU s (zx1 s b),()):=by
 have hw:=h.wk
 have hm:=h.mt
 have hwl:=E.wl
 have hml:=E.ml
 have e1:w64 (w64 (1+(s.Ws.length:Int))+(s.Ms.length:Int))=1+(s.Ws.length:Int)+(s.Ms.length:Int):=by rw [z9 (a:=1+(s.Ws.length:Int)) (by omega) (by omega),z9 (by omega) (by omega)]
 have ht:=vX (show (0:Int)≤(b.toNat:Int) by omega) (show (0:Int)<1+(s.Ws.length:Int)+(s.Ms.length:Int) by omega)
 rw [zmA,e1,zw,if_neg (by omega)]
 simp only [zw]
 unfold uU zx1
 generalize (b.toNat:Int).tmod (1+(s.Ws.length:Int)+(s.Ms.length:Int))=k at ht
 by_cases c0:k=0
 ·rw [if_pos c0,if_pos c0,zp2 h E];rfl
 rw [if_neg c0,if_neg c0]
 by_cases c1:k≤(s.Ws.length:Int)
 ·rw [if_pos c1,if_pos c1,zwG h E];rfl
 ·rw [if_neg c1,if_neg c1,z9 (by omega) (by omega),zdO h E];rfl
def zuO (ord:List (BitVec 8)) (i:Nat):BitVec 8:=ord.getD (i%ord.length) 0#8+BitVec.ofInt 8 ((i/ord.length:Nat):Int)
theorem zBS {ord:List (BitVec 8)} (hl:ord.length≠0) {i:Nat} (hi:i<1000000):idx ord ((i:Int).tmod (ord.length:Int))=some (ord.getD (i%ord.length) 0#8)∧ord.getD (i%ord.length) 0#8+BitVec.ofInt 8 (w64 ((i:Int).tdiv (ord.length:Int)))=zuO ord i:=by
 have e1:(i:Int).tmod (ord.length:Int)=((i%ord.length:Nat):Int):=by rw [Int.tmod_eq_emod_of_nonneg (by omega)];exact (Int.natCast_emod i ord.length).symm
 have e2:(i:Int).tdiv (ord.length:Int)=((i/ord.length:Nat):Int):=by rw [Int.tdiv_eq_ediv_of_nonneg (by omega)];exact (Int.natCast_ediv i ord.length).symm
 have hm:=Nat.mod_lt i (show 0<ord.length by omega)
 have hd:=Nat.div_le_self i ord.length
 refine ⟨?_,?_⟩
 ·rw [e1,vn (by omega),Int.toNat_natCast,List.getD_eq_getElem?_getD,List.getElem?_eq_getElem hm];rfl
 ·have hdi:((i/ord.length:Nat):Int)≤(i:Int):=Int.ofNat_le.2 hd
  have hdn:(0:Int)≤((i/ord.length:Nat):Int):=Int.natCast_nonneg _
  generalize hq:((i/ord.length:Nat):Int)=q at hdi hdn e2 ⊢
  rw [e2,z9 (by omega) (by omega)];unfold zuO;rw [hq]
def zmU (a:BitVec 64) (l:List zc):BitVec 64:=l.foldl (fun a x=>a|||zfO x.Regs) a
theorem zvN {v:Int}: ∀(l:List Int) (a:BitVec 64),zK (l.foldl (fun s o=>s|||bit o) a) v=true→zK a v=true∨v∈l
 | [],a,h=> .inl h
 | o::l,a,h=>by
  rcases zvN l _ h with h | h
  ·rcases Yk h with h | rfl
   ·exact .inl h
   ·exact .inr (List.mem_cons_self ..)
  ·exact .inr (List.mem_cons_of_mem _ h)
theorem zvX {v:Int}: ∀(l:List zc) (a:BitVec 64),zK (zmU a l) v=true→zK a v=true∨∃x∈l,v∈x.Regs
 | [],a,h=> .inl h
 | x::l,a,h=>by
  rcases zvX l _ h with h | ⟨y,hy,h⟩
  ·rcases (v8 _ _ _).1 h with h | h
   ·exact .inl h
   ·rcases zvN _ _ h with h | h
    ·exact absurd h (Yz v)
    ·exact .inr ⟨x,List.mem_cons_self ..,h⟩
  ·exact .inr ⟨y,List.mem_cons_of_mem _ hy,h⟩
theorem zy9 {s:za} (hs:YY s) (h: ∀x∈s.Ms,x.Buf=[]∧x.Batch=[]∧x.Obj=0) (b:Bool) (a:BitVec 64):yH wq (b,a,0,s,())=some (.brk (b,zmU a s.Ms,s,())):=by
 have hl:=hs.ms
 have e:zmU a s.Ms=zmU a (s.Ms.take s.Ms.length):=by rw [List.take_length]
 have:=zxl (f:=wq) (fun (j:Int) (r:BitVec 64)=>(b,r,j,s,())) (fun r=>(b,r,s,())) s.Ms.length (by omega) (fun j r=>match s.Ms[j]? with | some x=>r|||zfO x.Regs | none=>r) (fun _=>True) (fun _ _ _=>trivial)
  (fun j r hj _=>by
   have x1:=List.getElem?_eq_getElem hj
   have hm:=List.getElem_mem hj
   generalize s.Ms[j]=x at x1 hm
   obtain ⟨h1,h2,h3⟩:=h x hm
   show wq (b,r,(j:Int),s,())=_
   have b1:decide ((x.Buf.length:Int)=0)=true:=by rw [h1];rfl
   have b2:decide ((x.Batch.length:Int)=0)=true:=by rw [h2];rfl
   have b3:decide (x.Obj=0)=true:=by rw [h3];rfl
   rw [Vb,zw,if_pos (by omega),va x1,Option.bind_some,b1,Bool.not_true,cond_false,Option.bind_some,b2,Bool.not_true,cond_false,Option.bind_some,b3,Bool.not_true,cond_false,Option.bind_some,x1]
   dsimp only
   rw [zzD (hs.mu x hm).1,Option.bind_some,xR (by omega)])
  (fun r _=>by
   show wq (b,r,((s.Ms.length:Nat):Int),s,())=_
   rw [Vb,zw,if_neg (by omega)]) (s:=a) trivial
 refine this.trans ?_
 have key: ∀(n i:Nat) (r:BitVec 64),i+n=s.Ms.length→goF (fun j r=>match s.Ms[j]? with | some x=>r|||zfO x.Regs | none=>r) i n r=zmU r (s.Ms.drop i):=by
  intro n
  induction n with
  | zero=>intro i r hi;rw [List.drop_of_length_le (by omega)];rfl
  | succ n ih =>
   intro i r hi
   have hx:=List.getElem?_eq_getElem (show i<s.Ms.length by omega)
   rw [List.drop_eq_getElem_cons (show i<s.Ms.length by omega)]
   show goF _ (i+1) n (match s.Ms[i]? with | some x=>r|||zfO x.Regs | none=>r)=_
   rw [ih (i+1) _ (by omega),hx];rfl
 rw [key _ 0 a (by omega),List.drop_zero]
theorem zAZ {p:zb} (hp:zA p) {s:za} (hP:s.P=p) (I:RgI p s) {o:Int} (h:Reach s.H (zmU p.Roots s.Ms) o):LvH p s.H o:=by
 have hn:=hp.n
 induction h with
 | root o h1 h2 =>
  rcases zvX _ _ h1 with h | ⟨x,hx,h⟩
  ·have g:zK (uk p) o=true:=zoH (by have:=(wm _ _).1 h;omega) _ _ (.inl h)
   have:=(zzF hp).G.mrk o g
   exact .inl ((zfo hp o).2 (.root o g ⟨h2.1,this⟩))
  ·exact (I.rg x hx o h).resolve_left (by omega)
 | step o v _ h2 h3 ih=>exact (I.hp o v ih h2).resolve_left (by omega)
theorem detectDone_plain (l ord:List (BitVec 8)):uM l ord=some (true,()):=by
 obtain ⟨p,ep,h⟩:=zBD l
 rw [zg0,zuy]
 simp only [Option.bind_some,Bool.not_true,cond_false,ep,zkM h]
 obtain ⟨o,e,s,rfl,n,gh,W,Q⟩:=Zi (f:=Xc) (fun a=>∃(i:Nat) (s:za) (gh:Gh) (W:Int→Int→Prop),i≤1500∧a=(ord,true,(i:Int),s,())∧DI p (zZ p+1) i s gh W) (fun a=>1500-a.2.2.1.toNat)
  (fun o=>∃s,o= .brk (true,s,())∧∃(n:Nat) (gh:Gh) (W:Int→Int→Prop),DI p (zZ p+1) n s gh W) (by
  rintro _ ⟨i,s,gh,W,hi,rfl,Q⟩
  have E:=Q.I.G.E
  rw [zex,zw]
  by_cases c1:(i:Int)<1500
  rotate_left
  ·rw [if_neg c1];exact ⟨_,rfl,s,rfl,i,gh,W,Q⟩
  rw [if_pos c1]
  cases hd:s.Done with
  | true=>exact ⟨_,rfl,s,rfl,i,gh,W,Q⟩
  | false =>
   rw [Bool.not_false,cond_true,zw]
   by_cases c2:0<(ord.length:Int)
   rotate_left
   ·rw [if_neg c2];exact ⟨_,rfl,s,rfl,i,gh,W,Q⟩
   obtain ⟨b1,b2⟩:=zBS (ord:=ord) (by omega) (i:=i) (by omega)
   obtain ⟨gh',W',Q'⟩:=Q.next h (by omega) (zx1 s (zuO ord i))
   rw [if_pos c2,zw,if_neg (by omega),b1,Option.bind_some,zw,if_neg (by omega),b2,zBY h E,Option.bind_some]
   refine ⟨.again (ord,true,((i+1:Nat):Int),uU s (zx1 s (zuO ord i)),()),?_,⟨i+1,_,gh',W',by omega,rfl,Q'⟩,?_⟩
   ·dsimp only
    rw [xR (by omega)]
   ·show 1500-((i+1:Nat):Int).toNat<1500-(i:Int).toNat
    omega) (ord,true,0,yM p,()) ⟨0,yM p,gh0 p,_,by omega,rfl,zB2 h⟩ (by show 1500-0<18446744073709551616;decide)
 refine (congrArg (fun o=>Option.bind o _) e).trans ?_
 rw [Option.bind_some]
 dsimp only
 cases hd:s.Done with
 | false=>rfl
 | true =>
  obtain ⟨d1,d2,d3,d4⟩:=Q.done h hd
  have E:=Q.I.G.E
  have hN:=E.H.n
  have hn:=h.n
  have hmo:=h.most
  have hP:=E.S.P
  rw [Bool.not_true,cond_false,zy9 E.small (fun x hx=>by obtain ⟨i,hi⟩:=List.mem_iff_getElem?.1 hx;exact d3 i x hi),Option.bind_some]
  dsimp only
  have hg:s.T.Marks&&& ~~~s.T.Black=0#64:=(zoq _ _).2 (fun o ho=>by
   refine Decidable.byContradiction fun hb=>d2 o ((uV _ _).2 ⟨ho,hb⟩))
  have u1:zpb s.H (zmU s.P.Roots s.Ms)&&& ~~~s.T.Marks=0#64:=(zoq _ _).2 (fun o ho=>by
   rw [hP] at ho
   exact d4 o (zAZ h hP Q.R ((ztN (by omega) E.small.obj _ o).1 ho)))
  have u2:zuN p&&& ~~~s.T.Marks=0#64:=(zoq _ _).2 (fun o ho=>d4 o (.inl ho))
  rw [cond_true,d1,decide_eq_true rfl,cond_true,zr0,Option.bind_some,zrS (by omega) E.small.obj,Option.bind_some,zfe,Option.bind_some]
  dsimp only
  rw [hg,u1,hP,zzm h,Option.bind_some,zfe,Option.bind_some]
  dsimp only
  rw [u2];rfl
end B17
end
end Go.Pe.G
