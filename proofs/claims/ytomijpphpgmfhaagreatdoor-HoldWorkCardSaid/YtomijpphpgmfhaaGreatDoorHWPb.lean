/- Own work of this seat: PGstep, PWstep, PBits, PWAll, PLists, PWNew, PHeld, PCnt, PWOnce, PItems, PMstep, PHp, PFirst, PNewI, PFull, PHold, PFWork, PEngI, PRem, PHeldAll, PHOwed, PReach, PHTold, PEngN, PLaw19. -/
import Derived.Test.YtomijpphpgmfhaaGreatDoorHWPa
set_option linter.unusedVariables false
set_option linter.unusedSimpArgs false
set_option linter.unnecessarySimpa false
set_option linter.unusedSectionVars false
set_option linter.deprecated false
set_option maxRecDepth 20000
namespace Go.Pe.G
open Go.Pe
noncomputable section
theorem zF7 {p:zb} {s:za} {g:Gh} {b:Int}:yo p s {g with F:=b::g.F}=yu s b++yo p s g:=by
 unfold yo;simp [List.append_assoc]
theorem zFV {p:zb} {s:za} {g:Gh} {l:List Int}:yo p s {g with E:=l}=yo p s g:=rfl
theorem zDE {l:List Int} {t:Nat} {x:Int}:Dv t l t (l++[x]):=⟨Nat.le_refl _,fun _ h=>⟨by simp,by cases l with | nil=>exact absurd rfl h | cons a l=>rfl⟩⟩
theorem zAs {p:zb} (hp:zB p) {nb k:Nat} {R:List Int} {gh:Gh} {s:za} {g:zu} (hk:k<4294960000) (X:SX p nb s gh (x8 g++R) k) (M:MOk p nb g) (h5o:g.PC=5→g.C.Out≠1) (G:GX p s gh g) :
  zqx p nb k R gh s g (zx s g).1 (zx s g).2:=by
 have S':=(zqp hp X.S M h5o).1
 have hP:=X.S.P
 have hpc:=G.pc
 have hmd:=G.md
 have hob:=G.ob
 revert S'
 unfold zx
 by_cases h0:g.Out=0
 rotate_left
 ·rw [if_pos (.inl h0)]
  intro S'
  exact .quiet X S' rfl rfl rfl rfl rfl G.c0 G
 rw [if_neg (by omega)]
 have hc0:g.Mode=1→gh.c g.Who=0:=fun h=>G.c0 h h0
 by_cases p7:g.PC=7
 ·rw [if_pos p7]
  obtain ⟨c1,c2,c3,c4,c5⟩:=G.c7 p7 h0
  obtain ⟨m1,m2,m3,m4,m5⟩:=M.c7 p7
  have eo:x8 g=[g.Bin]:=zkj h0 (.inr p7)
  have eh:yh g=[g.Obj]:=vE h0 (by omega) (by omega)
  rw [eo] at X
  intro S'
  have S':SOk p nb {s with M:=(zn s.M g.C).1}:=S'
  unfold zco
  dsimp only
  rcases SX.pushF hp (o1:=[]) (o2:=R) (b:=g.Bin) X hk m1 m2 m3 c3 c1 c2 c4 m5 S' with ⟨a,b,c,d⟩ | ⟨a,b,d⟩
  ·rw [a]
   rw [if_neg (by decide)]
   have hout:=zbi s.M c1 c2 (.inl m1)
   have hsame:=zl4 s.M g.C
   have hpc':0≤(zn s.M g.C).2.PC∧(zn s.M g.C).2.PC≤2:=by omega
   refine ⟨gh,by rw [show x8 {g with C:=(zn s.M g.C).2}=[g.Bin] from zkj h0 (.inr p7)];exact b,?_,by rw [eo];exact d _ _ (by simp),fun h _=>hc0 h,fun _ h=> .inl h,[],?_,.inl ⟨rfl,rfl⟩⟩
   ·exact ⟨.inl h0,hpc,hmd,hob,fun h _=>hc0 h,fun e=>by have e:g.PC=5:=e;omega,fun _ _=>⟨a,hpc',(hsame.2.2.2 m1).trans c3,c,c5⟩,fun e=>by have e:g.PC=3:=e;omega⟩
   ·rw [uI rfl,show yh {g with C:=(zn s.M g.C).2}=[g.Obj] from vE h0 (by show (3:Int)≤g.PC;omega) (by show g.PC≤7;omega),eh]
    exact List.Perm.refl _
  ·rw [a,if_pos rfl]
   have e1:x8 {g with C:=(zn s.M g.C).2,Out:=1}=[]:=vd (.inl (by show (1:Int)≠0;decide))
   have e2:yh {g with C:=(zn s.M g.C).2,Out:=1}=[]:=Zm (.inl (by show (1:Int)≠0;decide))
   refine ⟨{gh with F:=g.Bin::gh.F},by rw [e1];exact b,?_,by rw [eo];exact d _ _ (by unfold yu;rw [c5];exact List.cons_ne_nil _ _),fun h _=>hc0 h,fun y hy=>(List.mem_cons.1 hy).elim (fun e=> .inr (by rw [e];unfold yu;rw [show ({s with M:=(zn s.M g.C).1}:za).Bins=s.Bins from rfl,c5];exact List.cons_ne_nil _ _)) .inl,[],?_,.inl ⟨rfl,rfl⟩⟩
   ·exact GX.plain (.inr rfl) hpc hmd hob (fun _ e=>by cases e) (.inl (by show (1:Int)≠0;decide))
   ·rw [e2,eh,zF7,uI rfl,List.append_nil]
    have:yu {s with M:=(zn s.M g.C).1} g.Bin=[g.Obj]:=by unfold yu;rw [show ({s with M:=(zn s.M g.C).1}:za).Bins=s.Bins from rfl,c5];rfl
    rw [this]
    exact List.perm_append_comm
 rw [if_neg p7]
 by_cases p6:g.PC=6
 ·rw [if_pos p6]
  have eo:x8 g=[g.Bin]:=zkj h0 (.inl p6)
  have eh:yh g=[g.Obj]:=vE h0 (by omega) (by omega)
  have hb:=M.b6 p6
  have hbl:=X.S.bins
  intro S'
  unfold zw1
  unfold zw1 at S'
  have e1:x8 {g with PC:=7,C:=⟨1,0,zY s.P,zD s.P,0#64,g.Bin,0,0⟩}=[g.Bin]:=zkj h0 (.inr rfl)
  have hget: ∀b,1≤b→b∉x8 g→(s.Bins.set g.Bin.toNat [g.Obj])[b.toNat]? =s.Bins[b.toNat]? :=fun b b1 b2=>by
   rw [List.getElem?_set_ne]
   intro e
   rw [eo] at b2
   exact b2 (by rw [show b=g.Bin by omega];simp)
  refine ⟨gh,by rw [e1,←eo];exact X.quiet S' rfl,?_,FX.quiet rfl hget,fun h _=>hc0 h,fun _ h=> .inl h,[],?_,.inl ⟨rfl,rfl⟩⟩
  ·refine ⟨.inl h0,⟨by show (0:Int)≤7;decide,by show (7:Int)≤7;decide⟩,hmd,hob,fun h _=>hc0 h,fun e=>absurd e (by show ¬(7:Int)=5;decide),fun _ _=>⟨rfl,⟨by show (0:Int)≤0;decide,by show (0:Int)≤2;decide⟩,rfl,⟨fun e=>absurd e (by show ¬(1:Int)≤0;decide),fun e=>absurd e (by show ¬(0:Int)=2;decide),fun e=>absurd e (by show ¬(0:Int)=2;decide)⟩,?_⟩,fun e=>absurd e (by show ¬(7:Int)=3;decide)⟩
   show (s.Bins.set g.Bin.toNat [g.Obj])[g.Bin.toNat]? =_
   rw [List.getElem?_set_self (by omega)]
  ·rw [show yh {g with PC:=7,C:=⟨1,0,zY s.P,zD s.P,0#64,g.Bin,0,0⟩}=[g.Obj] from vE h0 (by show (3:Int)≤7;decide) (by show (7:Int)≤7;decide),eh]
   have:yo p {s with Bins:=s.Bins.set g.Bin.toNat [g.Obj]} gh=yo p s gh:=by
    unfold yo
    congr 1
    refine xx (fun b hb=> ?_)
    have hm:=X.L.cF.mem b hb
    have hno:=(X.L.notF (x:=g.Bin) (by rw [eo];simp)).1
    unfold yu
    rw [show ({s with Bins:=s.Bins.set g.Bin.toNat [g.Obj]}:za).Bins=s.Bins.set g.Bin.toNat [g.Obj] from rfl,hget b hm.1 (by rw [eo];intro e;rw [List.mem_singleton.1 e] at hb;exact hno hb)]
   rw [this];exact List.Perm.refl _
 rw [if_neg p6]
 have eo:x8 g=[]:=vd (.inr ⟨p6,p7⟩)
 by_cases p5:g.PC=5
 ·rw [if_pos p5]
  obtain ⟨c1,c2,c3⟩:=G.c5 p5 h0
  obtain ⟨m1,m2,m3,m4,m5⟩:=M.c5 p5
  have eh:yh g=[g.Obj]:=vE h0 (by omega) (by omega)
  intro S'
  have S':SOk p nb {s with M:=(zn s.M g.C).1}:=S'
  unfold zls
  dsimp only
  rcases SX.popE hp X hk m1 m2 m3 c1 c2 c3 m4 S' with ⟨a,b,c,d⟩ | ⟨x,l,a,b,c,d,e⟩
  ·rw [if_neg b]
   have hout:=zbi s.M c1 c2 (.inr m1)
   by_cases o2:(zn s.M g.C).2.Out=2
   ·rw [if_pos o2]
    refine .quiet X S' a rfl rfl ?_ ?_ G.c0 (GX.ask h0 hmd hob hc0 _)
    ·rw [eo];exact vd (.inr ⟨by show (5:Int)≠6;decide,by show (5:Int)≠7;decide⟩)
    ·rw [eh];exact vE h0 (by show (3:Int)≤5;decide) (by show (5:Int)≤7;decide)
   ·rw [if_neg o2]
    have hpc':(zn s.M g.C).2.Out=0∧0≤(zn s.M g.C).2.PC∧(zn s.M g.C).2.PC≤2:=by omega
    refine .quiet X S' a rfl rfl ?_ ?_ G.c0 ⟨.inl h0,hpc,hmd,hob,G.c0,fun _ _=>⟨hpc'.1,hpc'.2,by rw [show ({s with M:=(zn s.M g.C).1}:za).M=s.M from a];exact c⟩,fun e=>by have e:g.PC=7:=e;omega,fun e=>by have e:g.PC=3:=e;omega⟩
    ·rw [eo];exact vd (.inr ⟨p6,p7⟩)
    ·rw [eh];exact vE h0 (by show (3:Int)≤g.PC;omega) (by show g.PC≤7;omega)
  ·rw [if_pos b]
   have e1:x8 {g with PC:=6,C:=(zn s.M g.C).2,Bin:=(zn s.M g.C).2.X}=[x]:=by rw [←c];exact zkj (g:={g with PC:=6,C:=(zn s.M g.C).2,Bin:=(zn s.M g.C).2.X}) h0 (.inl rfl)
   refine ⟨{gh with E:=l},by rw [e1];rw [eo] at d;exact d,?_,e _ _,fun h _=>hc0 h,fun _ h=> .inl h,[],?_,.inl ⟨rfl,rfl⟩⟩
   ·exact GX.plain (.inl h0) ⟨by show (0:Int)≤6;decide,by show (6:Int)≤7;decide⟩ hmd hob (fun h _=>hc0 h) (.inr ⟨by show (6:Int)≠3;decide,by show (6:Int)≠5;decide,by show (6:Int)≠7;decide⟩)
   ·rw [zFV,uI rfl,eh,show yh {g with PC:=6,C:=(zn s.M g.C).2,Bin:=(zn s.M g.C).2.X}=[g.Obj] from vE h0 (by show (3:Int)≤6;decide) (by show (6:Int)≤7;decide)]
    exact List.Perm.refl _
 rw [if_neg p5]
 by_cases p4:g.PC=4
 ·rw [if_pos p4]
  intro S'
  refine .quiet X S' rfl rfl rfl ?_ ?_ G.c0 (GX.ask h0 hmd hob hc0 _)
  ·rw [eo];exact vd (.inr ⟨by show (5:Int)≠6;decide,by show (5:Int)≠7;decide⟩)
  ·rw [vE h0 (by omega) (by omega)];exact vE h0 (by show (3:Int)≤5;decide) (by show (5:Int)≤7;decide)
 rw [if_neg p4]
 by_cases p3:g.PC=3
 ·rw [if_pos p3]
  obtain ⟨c1,c2,c3⟩:=G.d3 p3 h0
  have hw:=M.who c1
  have eh:yh g=[g.Obj]:=vE h0 (by omega) (by omega)
  have hdk:=X.dk g.Who hw.1 hw.2
  have hlen:=X.L.len
  have hE:=wp hp
  have hc00:=c3.c0
  have c3':=c3
  rw [hc00] at c3'
  have D0:=X.D g.Who hw.1 hw.2
  rw [hc00] at D0
  obtain ⟨a,b,r⟩:=zwO hp hw (by omega) D0 c3' (by omega) (by rw [c2];omega)
  intro S'
  have S':SOk p nb {s with M:=(yF s.M g.D).1}:=S'
  unfold zlB
  dsimp only
  rcases r with ⟨r1,r2,r3⟩ | ⟨r1,r2⟩ | ⟨r1,r2⟩
  ·rw [r1,if_neg (by decide),if_neg (by decide)]
   have e1:x8 {g with D:=(yF s.M g.D).2}=[]:=vd (.inr ⟨p6,p7⟩)
   refine ⟨Wr gh g.Who (gh.t g.Who) (gh.D g.Who) 0,?_,?_,FX.own (O:=zw3 g) (s:=s) (s':={s with M:=(yF s.M g.D).1}) (g:=gh) hp hw a rfl ⟨c1,rfl⟩ (Dv.refl _ _),fun _ _=>wu.2.2,fun _ h=> .inl h,[],?_,.inl ⟨rfl,rfl⟩⟩
   ·rw [e1];rw [eo] at X;exact X.dq hp S' (zh4 _ _) hw a r2 (by omega)
   ·refine ⟨.inl h0,hpc,hmd,hob,fun _ _=>wu.2.2,fun e=>by have e:g.PC=5:=e;omega,fun e=>by have e:g.PC=7:=e;omega,fun _ _=>⟨c1,b.trans c2,?_⟩⟩
    show DK p (yF s.M g.D).1 g.Who ((Wr gh g.Who (gh.t g.Who) (gh.D g.Who) 0).t g.Who) _ _ _
    rw [wu.1,wu.2.1,wu.2.2];exact r3
   ·obtain ⟨u,v,f1,f2⟩:=zqd (p:=p) (s:=s) (s':={s with M:=(yF s.M g.D).1}) (g:=gh) rfl hw (t:=gh.t g.Who) (c:=0) (l:=gh.D g.Who)
    rw [f1,f2,eh,show yh {g with D:=(yF s.M g.D).2}=[g.Obj] from vE h0 (by show (3:Int)≤g.PC;omega) (by show g.PC≤7;omega)]
    exact List.Perm.refl _
  ·rw [r1,if_neg (by decide),if_pos rfl]
   have e1:x8 (zhx s.P {g with D:=(yF s.M g.D).2})=[]:=vd (.inr ⟨by show (5:Int)≠6;decide,by show (5:Int)≠7;decide⟩)
   refine ⟨Wr gh g.Who (gh.t g.Who) (gh.D g.Who) 0,?_,?_,FX.own (O:=zw3 g) (s:=s) (s':={s with M:=(yF s.M g.D).1}) (g:=gh) hp hw a rfl ⟨c1,rfl⟩ (Dv.refl _ _),fun _ _=>wu.2.2,fun _ h=> .inl h,[],?_,.inl ⟨rfl,rfl⟩⟩
   ·rw [e1];rw [eo] at X;exact X.dq hp S' (zh4 _ _) hw a r2 (by omega)
   ·exact GX.ask (g:={g with D:=(yF s.M g.D).2}) h0 hmd hob (fun _=>wu.2.2) _
   ·obtain ⟨u,v,f1,f2⟩:=zqd (p:=p) (s:=s) (s':={s with M:=(yF s.M g.D).1}) (g:=gh) rfl hw (t:=gh.t g.Who) (c:=0) (l:=gh.D g.Who)
    rw [f1,f2,eh,show yh (zhx s.P {g with D:=(yF s.M g.D).2})=[g.Obj] from vE h0 (by show (3:Int)≤5;decide) (by show (5:Int)≤7;decide)]
    exact List.Perm.refl _
  ·rw [r1,if_pos rfl]
   have e1:x8 {g with D:=(yF s.M g.D).2,Out:=1}=[]:=vd (.inl (by show (1:Int)≠0;decide))
   refine ⟨Wr gh g.Who (gh.t g.Who) (gh.D g.Who++[g.D.X]) 0,?_,?_,FX.own (O:=zw3 g) (s:=s) (s':={s with M:=(yF s.M g.D).1}) (g:=gh) hp hw a rfl ⟨c1,rfl⟩ zDE,fun _ _=>wu.2.2,fun _ h=> .inl h,[],?_,.inl ⟨rfl,rfl⟩⟩
   ·rw [e1];rw [eo] at X;exact X.dq hp S' (zh4 _ _) hw a r2 (by rw [List.length_append,List.length_singleton];omega)
   ·exact GX.plain (.inr rfl) hpc hmd hob (fun _ e=>by cases e) (.inl (by show (1:Int)≠0;decide))
   ·obtain ⟨u,v,f1,f2⟩:=zqd (p:=p) (s:=s) (s':={s with M:=(yF s.M g.D).1}) (g:=gh) rfl hw (t:=gh.t g.Who) (c:=0) (l:=gh.D g.Who++[g.D.X])
    rw [f1,f2,eh,show yh {g with D:=(yF s.M g.D).2,Out:=1}=[] from Zm (.inl (by show (1:Int)≠0;decide)),c2,List.append_nil,List.nil_append]
    simp only [List.append_assoc]
    refine List.Perm.append_left _ (List.Perm.append_left _ ?_)
    exact List.perm_append_comm
 rw [if_neg p3]
 by_cases p2:g.PC=2
 ·rw [if_pos p2]
  intro S'
  refine .quiet X S' rfl rfl rfl ?_ ?_ G.c0 (GX.plain (.inr rfl) hpc hmd hob (fun _ e=>by cases e) (.inl (by show (1:Int)≠0;decide)))
  ·rw [eo];exact vd (.inl (by show (1:Int)≠0;decide))
  ·rw [Zm (g:=g) (.inr (.inl (by omega)))];exact Zm (.inl (by show (1:Int)≠0;decide))
 rw [if_neg p2]
 by_cases p1:g.PC=1
 ·rw [if_pos p1]
  have eh:yh g=[]:=Zm (.inr (.inl (by omega)))
  intro S'
  unfold zlw
  unfold zlw at S'
  dsimp only at S' ⊢
  by_cases hs:(vv s.T g.Obj).2=false
  ·have eT:(vv s.T g.Obj).1=s.T:=by
    unfold vv at hs ⊢
    split at hs
    ·rename_i h1;rw [if_pos h1]
    ·rename_i h1
     split at hs
     ·cases hs
     ·rename_i h2;rw [if_neg h1,if_neg h2]
   rw [if_pos hs]
   refine .quiet X S' rfl rfl eT ?_ ?_ G.c0 (GX.plain (.inl h0) ⟨by show (0:Int)≤2;decide,by show (2:Int)≤7;decide⟩ hmd hob G.c0 (.inr ⟨by show (2:Int)≠3;decide,by show (2:Int)≠5;decide,by show (2:Int)≠7;decide⟩))
   ·rw [eo];exact vd (.inr ⟨by show (2:Int)≠6;decide,by show (2:Int)≠7;decide⟩)
   ·rw [eh];exact Zm (.inr (.inl (by show (2:Int)<3;decide)))
  ·have eT: ¬(s.T.Marks|||bit g.Obj=s.T.Marks)∧(vv s.T g.Obj).1={s.T with Marks:=s.T.Marks|||bit g.Obj}:=by
    unfold vv at hs ⊢
    split at hs
    ·exact absurd rfl hs
    ·rename_i h1
     split at hs
     ·rename_i h2;exact ⟨h1,by rw [if_neg h1,if_pos h2]⟩
     ·exact absurd rfl hs
   rw [if_neg hs]
   have fin: ∀g':zu,x8 g'=[]→yh g'=[g.Obj]→GX p {s with T:=(vv s.T g.Obj).1} gh g'→zqx p nb k R gh s g {s with T:=(vv s.T g.Obj).1} g':=fun g' a b c =>
    ⟨gh,by rw [a,←eo];exact X.quiet S' rfl,c,FX.quiet rfl (fun _ _ _=>rfl),fun h _=>hc0 h,fun _ h=> .inl h,[g.Obj],by rw [uI rfl,b,eh,List.append_nil];exact List.perm_append_comm,.inr ⟨rfl,eT.1,eT.2⟩⟩
   by_cases q1:g.Mode=1
   ·rw [if_pos q1]
    have hw:=M.who q1
    refine fin _ (vd (.inr ⟨by show (3:Int)≠6;decide,by show (3:Int)≠7;decide⟩)) (vE h0 (by show (3:Int)≤3;decide) (by show (3:Int)≤7;decide))
     ⟨.inl h0,⟨by show (0:Int)≤3;decide,by show (3:Int)≤7;decide⟩,hmd,hob,G.c0,fun e=>absurd e (by show ¬(3:Int)=5;decide),fun e=>absurd e (by show ¬(3:Int)=7;decide),fun _ _=>⟨q1,rfl,⟨rfl,by rw [hP],by rw [hP],rfl,hc0 q1,⟨by show (0:Int)≤0;decide,by show (0:Int)≤3;decide⟩,fun e=>absurd e (by show ¬(1:Int)≤0;decide),fun e=>absurd e (by show ¬(2:Int)≤0;decide),fun e=>absurd e (by show ¬(3:Int)≤0;decide)⟩⟩⟩
   rw [if_neg q1]
   by_cases q2:g.Mode=2
   ·rw [if_pos q2]
    exact fin _ (vd (.inr ⟨by show (4:Int)≠6;decide,by show (4:Int)≠7;decide⟩)) (vE h0 (by show (3:Int)≤4;decide) (by show (4:Int)≤7;decide))
     (GX.plain (.inl h0) ⟨by show (0:Int)≤4;decide,by show (4:Int)≤7;decide⟩ hmd hob G.c0 (.inr ⟨by show (4:Int)≠3;decide,by show (4:Int)≠5;decide,by show (4:Int)≠7;decide⟩))
   ·rw [if_neg q2]
    exact fin _ (vd (.inr ⟨by show (5:Int)≠6;decide,by show (5:Int)≠7;decide⟩)) (vE h0 (by show (3:Int)≤5;decide) (by show (5:Int)≤7;decide)) (GX.ask h0 hmd hob hc0 _)
 ·rw [if_neg p1]
  intro S'
  refine .quiet X S' rfl rfl rfl ?_ ?_ G.c0 (GX.plain (.inl h0) ⟨by show (0:Int)≤1;decide,by show (1:Int)≤7;decide⟩ hmd hob G.c0 (.inr ⟨by show (1:Int)≠3;decide,by show (1:Int)≠5;decide,by show (1:Int)≠7;decide⟩))
  ·rw [eo];exact vd (.inr ⟨by show (1:Int)≠6;decide,by show (1:Int)≠7;decide⟩)
  ·rw [Zm (g:=g) (.inr (.inl (by omega)))];exact Zm (.inr (.inl (by show (1:Int)<3;decide)))
end
end Go.Pe.G
namespace Go.Pe.G
open Go.Pe
noncomputable section
def wg (x:zh):List Int:=if x.PC=3∨x.PC=4 then [x.Bin] else if x.PC=6 then x8 x.G else []
def Ut (s:za) (x:zh):List Int:=if x.PC=0 then ZJ s.M x.D else if x.PC=3 then yu s x.Bin else if x.PC=5∨x.PC=8 then [x.Obj] else if x.PC=6 then x.Obj::yh x.G else []
def zJ (s:za) (x:zh):List Int:=x.Batch++Ut s x
structure WX (p:zb) (s:za) (gh:Gh) (w:Int) (x:zh):Prop where
 c0:x.PC≠0→gh.c w=0
 bt:x.PC≤3→x.Batch=[]
 p0:x.PC=0→PK p s.M w (gh.t w) (gh.D w) (gh.c w) x.D
 p1:x.PC=1→TK p s.M x.Victim (gh.t x.Victim) (gh.D x.Victim) x.D
 p2:x.PC=2→x.C.Out=0∧(0≤x.C.PC∧x.C.PC≤2)∧CK p s.M x.C
 p4:x.PC=4→x.C.Out=0∧(0≤x.C.PC∧x.C.PC≤2)∧x.C.X=x.Bin∧CK p s.M x.C
 p6:x.PC=6→GX p s gh x.G∧x.G.Mode=1∧x.G.Who=w∧x.G.Out=0
theorem WX.plain {p:zb} {s:za} {gh:Gh} {w:Int} {x:zh} (h:x.PC=5∨x.PC=7∨x.PC=8∨x.PC=9) (c:gh.c w=0):WX p s gh w x :=
 ⟨fun _=>c,fun e=>by omega,fun e=>by omega,fun e=>by omega,fun e=>by omega,fun e=>by omega,fun e=>by omega⟩
theorem CK.start {p:zb} {m:List (BitVec 64)} {k h x:Int}:CK p m ⟨k,0,h,zD p,0#64,x,0,0⟩ :=
 ⟨fun e=>absurd e (by show ¬(1:Int)≤0;decide),fun e=>absurd e (by show ¬(0:Int)=2;decide),fun e=>absurd e (by show ¬(0:Int)=2;decide)⟩
theorem WX.begin {p:zb} {s:za} {gh:Gh} {w:Int} {x:zh} (c:gh.c w=0) (hb:x.Batch=[]):WX p s gh w (V5 p w x):=by
 refine ⟨fun e=>absurd rfl e,fun _=>hb,fun _=>⟨rfl,rfl,rfl,rfl,⟨by show (0:Int)≤0;decide,by show (0:Int)≤6;decide⟩,fun _=>c,?_,?_,?_,?_,?_,?_,?_,?_⟩,fun e=>(by cases e),fun e=>(by cases e),fun e=>(by cases e),fun e=>(by cases e)⟩
 all_goals (intro e;first | (exact absurd e (by show ¬((0:Int)=2∨(4:Int)≤0);decide)) | (exact absurd e (by show ¬(0:Int)=3;decide)) | (exact absurd e (by show ¬(0:Int)=4;decide)) | (exact absurd e (by show ¬((0:Int)=3∨(0:Int)=4);decide)) | (exact absurd e (by show ¬(5:Int)≤0;decide)) | skip)
 rcases e with e | e | e | e
 ·exact absurd e (by show ¬(0:Int)=1;decide)
 ·exact absurd e (by show ¬(0:Int)=2;decide)
 ·exact absurd e (by show ¬(4:Int)≤0;decide)
 ·exact absurd e.1 (by show ¬(0:Int)=3;decide)
theorem zia {p:zb} {s:za} {w:Int} {x:zh}:Ut s (V5 p w x)=[]:=by
 unfold Ut
 rw [if_pos (show (V5 p w x).PC=0 from rfl)]
 exact vy (.inl (by show (0:Int)≠3;decide)) (by show (0:Int)≠6;decide)
theorem WX.look {p:zb} {s:za} {gh:Gh} {w:Int} {x:zh} (c:gh.c w=0) (hb:x.Batch=[]):WX p s gh w (Yn p w x)∧Ut s (Yn p w x)=[]∧wg (Yn p w x)=[]:=by
 unfold Yn
 split
 ·refine ⟨⟨fun _=>c,fun _=>hb,fun e=>(by cases e),fun e=>(by cases e),fun _=>⟨rfl,⟨by show (0:Int)≤0;decide,by show (0:Int)≤2;decide⟩,CK.start⟩,fun e=>(by cases e),fun e=>(by cases e)⟩,?_,?_⟩
  ·unfold Ut;rw [if_neg (by show ¬(2:Int)=0;decide),if_neg (by show ¬(2:Int)=3;decide),if_neg (by show ¬((2:Int)=5∨(2:Int)=8);decide),if_neg (by show ¬(2:Int)=6;decide)]
  ·unfold wg;rw [if_neg (by show ¬((2:Int)=3∨(2:Int)=4);decide),if_neg (by show ¬(2:Int)=6;decide)]
 ·refine ⟨⟨fun _=>c,fun _=>hb,fun e=>(by cases e),fun _=>⟨rfl,rfl,rfl,rfl,⟨by show (0:Int)≤0;decide,by show (0:Int)≤3;decide⟩,fun e=>absurd e (by show ¬(1:Int)≤0;decide),fun e=>absurd e (by show ¬(2:Int)≤0;decide),fun e=>absurd e (by show ¬(0:Int)=3;decide)⟩,fun e=>(by cases e),fun e=>(by cases e),fun e=>(by cases e)⟩,?_,?_⟩
  ·unfold Ut;rw [if_neg (by show ¬(1:Int)=0;decide),if_neg (by show ¬(1:Int)=3;decide),if_neg (by show ¬((1:Int)=5∨(1:Int)=8);decide),if_neg (by show ¬(1:Int)=6;decide)]
  ·unfold wg;rw [if_neg (by show ¬((1:Int)=3∨(1:Int)=4);decide),if_neg (by show ¬(1:Int)=6;decide)]
theorem WX.other {p:zb} (hp:zB p) {nb k:Nat} {s s':za} {gh gh':Gh} {X R:List Int} {O:Int→Prop} {w:Int} {x:zh} (hw:1≤w∧w≤p.Workers) (Y:SX p nb s gh (X++R) k) (Fx:FX p nb X O s s' gh gh') (K:WX p s gh w x) (W:WOk p nb w x)
  (hR: ∀b∈wg x,b∈R) (apart: ¬O w):WX p s' gh' w x∧zJ s' x=zJ s x:=by
 have hsub: ∀b∈X,b∈X++R:=fun b hb=>List.mem_append_left _ hb
 have hnd:=(List.nodup_append.1 Y.L.nodup).2.1
 have hnot: ∀b,b∈wg x→b∉X:=fun b hb hg=>(List.nodup_append.1 hnd).2.2 b hg b (hR b hb) rfl
 have hc:gh'.c w=gh.c w:=by
  rcases Fx.dq w hw.1 hw.2 with h | h
  ·cases h with
   | same e1 e2 e3 e4=>exact e3
   | stolen y e1 e2 e3 e4=>exact e3
  ·exact absurd h.1 apart
 have hcell: ∀a,zI p w<a→a<zI p w+p.Cap+2→ld s'.M a=ld s.M a:=by
  rcases Fx.dq w hw.1 hw.2 with h | h
  ·cases h with
   | same e1 e2 e3 e4=>exact fun a h1 h2=>e4 a (by omega) h2
   | stolen y e1 e2 e3 e4=>exact e4
  ·exact absurd h.1 apart
 refine ⟨⟨fun e=>hc.trans (K.c0 e),K.bt,fun e=>Fx.pk hp hw.1 hw.2 apart (K.p0 e),fun e=>Fx.tk W.vic.1 W.vic.2 (K.p1 e),fun e=> ?_,fun e=> ?_,fun e=> ?_⟩,?_⟩
 ·obtain ⟨a,b,c⟩:=K.p2 e
  have C:=W.c2 e
  exact ⟨a,b,c.mv Y.L Fx.mv hsub (.inl C.h) (fun h _=>C.v h) (fun e2=>by have:=C.k;omega)⟩
 ·obtain ⟨a,b,c,d⟩:=K.p4 e
  have C:=W.c4 e
  have hno:=hnot x.Bin (by unfold wg;rw [if_pos (.inr e)];simp)
  exact ⟨a,b,c,d.mv Y.L Fx.mv hsub (.inr C.h) (fun _ e2=>by have:=C.k;omega) (fun _=>⟨C.x.1,C.x.2,by rw [c];exact hno⟩)⟩
 ·obtain ⟨a,b,c,d⟩:=K.p6 e
  have M:=(W.g6 e).1
  refine ⟨a.other hp Y Fx M (fun y hy=>hR y ?_) (fun _=>by rw [c];exact apart),b,c,d⟩
  unfold wg;rw [if_neg (by omega),if_pos e];exact hy
 ·unfold zJ Ut
  congr 1
  by_cases e0:x.PC=0
  ·rw [if_pos e0,if_pos e0]
   have P:=K.p0 e0
   unfold ZJ
   have hpl:=(zr5 hp hw.1 hw.2 P.base P.size (x.D.B-1#64)).2
   rw [hcell _ (by rw [P.base] at hpl;omega) (by rw [P.base] at hpl;omega)]
  ·rw [if_neg e0,if_neg e0]
   by_cases e3:x.PC=3
   ·rw [if_pos e3,if_pos e3]
    have hb:=W.b3 e3
    have hno:=hnot x.Bin (by unfold wg;rw [if_pos (.inl e3)];simp)
    unfold yu
    rw [Fx.bn x.Bin hb.1 hno]
   ·rw [if_neg e3,if_neg e3]
theorem zx0 (s:za) (b:Int):WW s b=yu s b:=by unfold WW yu;rw [List.getD_eq_getElem?_getD]
theorem FX.mono {p:zb} {nb:Nat} {X:List Int} {O O':Int→Prop} {s s':za} {g g':Gh} (h:FX p nb X O s s' g g') (i: ∀v,O v→O' v):FX p nb X O' s s' g g' :=
 ⟨h.mv,h.bn,fun v a b=>(h.dq v a b).imp id (fun e=>⟨i v e.1,e.2⟩),h.fb⟩
theorem vX {x:zh} (h3:x.PC≠3) (h4:x.PC≠4) (h6:x.PC≠6):wg x=[]:=by unfold wg;rw [if_neg (by omega),if_neg h6]
theorem zkr {x:zh} (h:x.PC=3∨x.PC=4):wg x=[x.Bin]:=by unfold wg;rw [if_pos h]
theorem zyC {x:zh} (h:x.PC=6):wg x=x8 x.G:=by unfold wg;rw [if_neg (by omega),if_pos h]
theorem zB8 {s:za} {x:zh} (h:x.PC=0):Ut s x=ZJ s.M x.D:=by unfold Ut;rw [if_pos h]
theorem zBn {s:za} {x:zh} (h:x.PC=3):Ut s x=yu s x.Bin:=by unfold Ut;rw [if_neg (by omega),if_pos h]
theorem UH {s:za} {x:zh} (h:x.PC=5∨x.PC=8):Ut s x=[x.Obj]:=by unfold Ut;rw [if_neg (by omega),if_neg (by omega),if_pos h]
theorem zxK {s:za} {x:zh} (h:x.PC=6):Ut s x=x.Obj::yh x.G:=by unfold Ut;rw [if_neg (by omega),if_neg (by omega),if_neg (by omega),if_pos h]
theorem Yb {s:za} {x:zh} (h:x.PC=1∨x.PC=2∨x.PC=4∨x.PC=7∨x.PC=9):Ut s x=[]:=by unfold Ut;rw [if_neg (by omega),if_neg (by omega),if_neg (by omega),if_neg (by omega)]
def zjA (p:zb) (nb k:Nat) (R:List Int) (gh:Gh) (s:za) (w:Int) (x:zh) (s':za) (x':zh):Prop :=
 ∃gh',SX p nb s' gh' (wg x'++R) (k+1)∧WX p s' gh' w x'∧FX p nb (wg x) (fun v=>v=w) s s' gh gh' ∧
  ∃N B,List.Perm (yo p s' gh'++zJ s' x'++B) (N++(yo p s gh++zJ s x)) ∧
   ((N=[]∧B=[]∧s'.T=s.T)∨(N=[x.G.Obj]∧B=[]∧x.PC=6∧¬(s.T.Marks|||bit x.G.Obj=s.T.Marks)∧s'.T={s.T with Marks:=s.T.Marks|||bit x.G.Obj})∨(N=[]∧B=[x.Obj]∧x.PC=8∧s'.T=wJ s.T x.Obj))
theorem zjA.quiet {p:zb} {nb k:Nat} {R:List Int} {gh:Gh} {s s':za} {w:Int} {x x':zh} (X:SX p nb s gh (wg x++R) k) (S':SOk p nb s') (hm:s'.M=s.M) (hb:s'.Bins=s.Bins) (hT:s'.T=s.T)
  (ho:wg x'=wg x) (hh:List.Perm (zJ s' x') (zJ s x)) (W':WX p s' gh w x'):zjA p nb k R gh s w x s' x' :=
 ⟨gh,by rw [ho];exact X.quiet S' hm,W',FX.quiet hm (fun _ _ _=>by rw [hb]),[],[],by rw [uI hb,List.append_nil];exact List.Perm.append_left _ hh,.inl ⟨rfl,rfl,hT⟩⟩
theorem zDX {p:zb} (hp:zB p) {nb k:Nat} {R:List Int} {gh:Gh} {s:za} {w:Int} {x:zh} (hk:k<4294960000) (hw:1≤w∧w≤p.Workers) (X:SX p nb s gh (wg x++R) k) (W:WOk p nb w x) (K:WX p s gh w x)
  (hH: ∀o i,0≤xA s.H o i∧xA s.H o i≤64):zjA p nb k R gh s w x (zp s w x).1 (zp s w x).2:=by
 have S':=(zz9 hp hw X.S W).1
 have hP:=X.S.P
 have eL: ∀y,Yn s.P w y=Yn p w y:=fun y=>by rw [hP]
 have eB: ∀y,V5 s.P w y=V5 p w y:=fun y=>by rw [hP]
 have eC:za2 s.P (zD s.P) x.Bin=za2 p (zD p) x.Bin:=by rw [hP]
 have hpc:=W.pc
 have hlen:=X.L.len
 have hE:=wp hp
 revert S'
 unfold zp
 by_cases p01:x.PC=0∨x.PC=1
 ·rw [if_pos p01]
  intro S'
  have S':SOk p nb {s with M:=(zT s.M x.D).1}:=S'
  have hl:=(zmq s.M x.D).1
  have eo:wg x=[]:=vX (by omega) (by omega) (by omega)
  have hbt:=K.bt (by omega)
  rw [eo] at X
  dsimp only
  by_cases p0:x.PC=0
  ·have K0:=K.p0 p0
   have D0:=X.D w hw.1 hw.2
   have hdk:=X.dk w hw.1 hw.2
   obtain ⟨t',l',c',D',hm,V,hle,r⟩:=zxS hp hw (by omega) D0 K0
   have hc:=hp.cap
   have hm': ∀a,(a<zI p w∨zI p w+p.Cap+2≤a)→ld (zT s.M x.D).1 a=ld s.M a:=fun a ha=>hm a (by omega) (by omega)
   have X':=X.dq hp S' hl hw hm' D' (by omega)
   have Fx:FX p nb (wg x) (fun v=>v=w) s {s with M:=(zT s.M x.D).1} gh (Wr gh w t' l' c'):=FX.own (O:=fun v=>v=w) (s:=s) (s':={s with M:=(zT s.M x.D).1}) (g:=gh) hp hw hm' rfl rfl V
   obtain ⟨u,v,f1,f2⟩:=zqd (p:=p) (s:=s) (s':={s with M:=(zT s.M x.D).1}) (g:=gh) rfl hw (t:=t') (c:=c') (l:=l')
   have fin: ∀x':zh,wg x'=[]→WX p {s with M:=(zT s.M x.D).1} (Wr gh w t' l' c') w x'→List.Perm (l'++zJ {s with M:=(zT s.M x.D).1} x') (gh.D w++zJ s x)→zjA p nb k R gh s w x {s with M:=(zT s.M x.D).1} x':=by
    intro x' a b c
    refine ⟨_,by rw [a];exact X',b,Fx,[],[],?_,.inl ⟨rfl,rfl,rfl⟩⟩
    rw [f1,f2,List.append_nil,List.nil_append]
    simp only [List.append_assoc]
    refine List.Perm.append_left _ ?_
    refine (List.perm_append_comm_assoc l' v _).trans (List.Perm.trans ?_ (List.perm_append_comm_assoc v (gh.D w) _))
    exact List.Perm.append_left _ c
   have hh:zJ s x=ZJ s.M x.D:=by unfold zJ;rw [hbt,zB8 p0,List.nil_append]
   rw [hh] at fin
   rcases r with ⟨r1,r2,r3⟩ | ⟨r1,r2,r3⟩ | ⟨r1,r2,r3,r4,r5⟩
   ·rw [r1,if_neg (by decide),if_neg (by decide)]
    refine fin _ (vX (by show x.PC≠3;omega) (by show x.PC≠4;omega) (by show x.PC≠6;omega)) ⟨fun e=>absurd p0 e,fun _=>hbt,fun _=> ?_,fun e=>by have e:x.PC=1:=e;omega,fun e=>by have e:x.PC=2:=e;omega,fun e=>by have e:x.PC=4:=e;omega,fun e=>by have e:x.PC=6:=e;omega⟩ ?_
    ·rw [wu.1,wu.2.1,wu.2.2];exact r2
    ·unfold zJ
     rw [zB8 (x:={x with D:=(zT s.M x.D).2}) p0]
     show List.Perm (l'++(x.Batch++ZJ (zT s.M x.D).1 (zT s.M x.D).2)) _
     rw [hbt,List.nil_append];exact r3
   ·rw [r1,if_pos rfl]
    refine fin _ (vX (by show (5:Int)≠3;decide) (by show (5:Int)≠4;decide) (by show (5:Int)≠6;decide)) (WX.plain (.inl rfl) (by rw [wu.2.2];exact r2)) ?_
    unfold zJ
    rw [UH (.inl rfl)]
    show List.Perm (l'++(x.Batch++[(zT s.M x.D).2.X])) _
    rw [hbt,List.nil_append];exact r3
   ·rw [r1,if_neg (by decide),if_pos (.inl rfl),eL]
    obtain ⟨a,b,c⟩:=WX.look (p:=p) (s:={s with M:=(zT s.M x.D).1}) (gh:=Wr gh w t' l' c') (w:=w) (x:={x with D:=(zT s.M x.D).2}) (by rw [wu.2.2];exact r2) hbt
    refine fin _ c a ?_
    unfold zJ
    rw [b,r3,r4,r5,show (Yn p w {x with D:=(zT s.M x.D).2}).Batch=x.Batch by unfold Yn;split<;>rfl,hbt]
    exact List.Perm.refl _
  ·have p1:x.PC=1:=by omega
   have K1:=K.p1 p1
   have hv:=W.vic
   have hc0:=K.c0 p0
   have D0:=X.D x.Victim hv.1 hv.2
   have hdk:=X.dk x.Victim hv.1 hv.2
   have hh:zJ s x=[]:=by unfold zJ;rw [hbt,Yb (.inl p1)];rfl
   rcases zAZ hp hv (by omega) D0 K1 with ⟨hm,r⟩ | ⟨y,l',e1,e2,e3,e4,e5⟩
   ·have S2:=S'
    have q: ∀x':zh,wg x'=[]→zJ {s with M:=(zT s.M x.D).1} x'=[]→WX p {s with M:=(zT s.M x.D).1} gh w x'→zjA p nb k R gh s w x {s with M:=(zT s.M x.D).1} x' :=
     fun x' a b c=> .quiet (by rw [eo];exact X) S' hm rfl rfl (by rw [a,eo]) (by rw [b,hh]) c
    rcases r with ⟨r1,r2⟩ | r
    ·rw [r1,if_neg (by decide),if_neg (by decide)]
     refine q _ (vX (by show x.PC≠3;omega) (by show x.PC≠4;omega) (by show x.PC≠6;omega)) ?_ ⟨fun _=>hc0,fun _=>hbt,fun e=>absurd e p0,fun _=> ?_,fun e=>by have e:x.PC=2:=e;omega,fun e=>by have e:x.PC=4:=e;omega,fun e=>by have e:x.PC=6:=e;omega⟩
     ·unfold zJ
      rw [Yb (x:={x with D:=(zT s.M x.D).2}) (.inl p1)]
      show x.Batch++[]=[]
      rw [hbt];rfl
     ·show TK p (zT s.M x.D).1 _ _ _ _
      rw [hm];exact r2
    ·rw [if_neg (by omega),if_pos r,eL]
     obtain ⟨a,b,c⟩:=WX.look (p:=p) (s:={s with M:=(zT s.M x.D).1}) (gh:=gh) (w:=w) (x:={x with D:=(zT s.M x.D).2}) hc0 hbt
     refine q _ c ?_ a
     unfold zJ
     rw [b,show (Yn p w {x with D:=(zT s.M x.D).2}).Batch=x.Batch by unfold Yn;split<;>rfl,hbt];rfl
   ·have hc:=hp.cap
    have hm': ∀a,(a<zI p x.Victim∨zI p x.Victim+p.Cap+2≤a)→ld (zT s.M x.D).1 a=ld s.M a:=fun a ha=>e5 a (by omega)
    have X':=X.dq hp S' hl hv hm' e4 (by rw [e1] at hdk;simp at hdk;omega)
    obtain ⟨h1,h2⟩:=zus hp hv hm'
    obtain ⟨u,v,f1,f2⟩:=zqd (p:=p) (s:=s) (s':={s with M:=(zT s.M x.D).1}) (g:=gh) rfl hv (t:=gh.t x.Victim+1) (c:=gh.c x.Victim) (l:=l')
    rw [e2,if_pos rfl]
    refine ⟨Wr gh x.Victim (gh.t x.Victim+1) l' (gh.c x.Victim),by rw [vX (by show (5:Int)≠3;decide) (by show (5:Int)≠4;decide) (by show (5:Int)≠6;decide)];exact X',WX.plain (.inl rfl) ?_,⟨Mv.low hp h1,fun _ _ _=>rfl,fun v' a b=> .inl ?_,fun _ h=> .inl h⟩,[],[],?_,.inl ⟨rfl,rfl,rfl⟩⟩
    ·by_cases e:w=x.Victim
     ·rw [e,wu.2.2,←e];exact hc0
     ·rw [(YU e).2.2];exact hc0
    ·by_cases e:v'=x.Victim
     ·subst e
      exact .stolen y wu.2.1 (by rw [wu.1];exact e1) wu.2.2 (fun a h1 _=>e5 a (by omega))
     ·exact .same (YU e).2.1 (YU e).1 (YU e).2.2 (h2 v' a b e)
    ·rw [f1,f2,hh,List.append_nil,List.append_nil,List.nil_append,e1]
     unfold zJ
     rw [UH (.inl rfl)]
     show List.Perm (u++l'++v++(x.Batch++[(zT s.M x.D).2.X])) _
     rw [hbt,List.nil_append,e3]
     simp only [List.append_assoc]
     refine List.Perm.append_left _ ?_
     show List.Perm (l'++(v++[y])) (y::(l'++v))
     rw [←List.append_assoc]
     exact List.perm_append_comm
 rw [if_neg p01]
 have hc0:=K.c0 (by omega)
 by_cases p2:x.PC=2
 ·rw [if_pos p2]
  intro S'
  have S':SOk p nb {s with M:=(zn s.M x.C).1}:=S'
  have C:=W.c2 p2
  obtain ⟨c1,c2,c3⟩:=K.p2 p2
  have hbt:=K.bt (by omega)
  have eo:wg x=[]:=vX (by omega) (by omega) (by omega)
  have hh:zJ s x=[]:=by unfold zJ;rw [hbt,Yb (.inr (.inl p2))];rfl
  dsimp only
  rcases SX.popF hp X hk C.k C.h C.n c1 c2 c3 C.v S' with ⟨a,b,c,d⟩ | ⟨y,l,a,b,c,d,e⟩
  ·rw [if_neg b]
   have hout:=zbi s.M c1 c2 (.inr C.k)
   by_cases o2:(zn s.M x.C).2.Out=2
   ·rw [if_pos o2,eB]
    refine .quiet X S' a rfl rfl ?_ ?_ (WX.begin hc0 hbt)
    ·rw [eo];exact vX (by show (0:Int)≠3;decide) (by show (0:Int)≠4;decide) (by show (0:Int)≠6;decide)
    ·unfold zJ
     rw [zia,show (V5 p w {x with C:=(zn s.M x.C).2}).Batch=x.Batch from rfl]
     rw [hbt,Yb (.inr (.inl p2))]
   ·rw [if_neg o2]
    have hpc':(zn s.M x.C).2.Out=0∧0≤(zn s.M x.C).2.PC∧(zn s.M x.C).2.PC≤2:=by omega
    refine .quiet X S' a rfl rfl ?_ ?_ ⟨fun _=>hc0,fun _=>hbt,fun e=>by have e:x.PC=0:=e;omega,fun e=>by have e:x.PC=1:=e;omega,fun _=>⟨hpc'.1,hpc'.2,?_⟩,fun e=>by have e:x.PC=4:=e;omega,fun e=>by have e:x.PC=6:=e;omega⟩
    ·rw [eo];exact vX (by show x.PC≠3;omega) (by show x.PC≠4;omega) (by show x.PC≠6;omega)
    ·unfold zJ
     rw [Yb (x:={x with C:=(zn s.M x.C).2}) (.inr (.inl p2)),Yb (.inr (.inl p2))]
    ·rw [show ({s with M:=(zn s.M x.C).1}:za).M=s.M from a];exact c
  ·rw [if_pos b]
   have e1:wg {x with C:=(zn s.M x.C).2,Bin:=(zn s.M x.C).2.X,PC:=3}=[y]:=by rw [←c];exact zkr (x:={x with C:=(zn s.M x.C).2,Bin:=(zn s.M x.C).2.X,PC:=3}) (.inl rfl)
   refine ⟨{gh with F:=l},by rw [e1];rw [eo] at d;exact d,⟨fun _=>hc0,fun _=>hbt,fun e=>(by cases e),fun e=>(by cases e),fun e=>(by cases e),fun e=>(by cases e),fun e=>(by cases e)⟩,e _ _,[],[],?_,.inl ⟨rfl,rfl,rfl⟩⟩
   rw [hh,List.append_nil,List.append_nil,List.nil_append]
   unfold zJ
   rw [zBn (x:={x with C:=(zn s.M x.C).2,Bin:=(zn s.M x.C).2.X,PC:=3}) rfl]
   show List.Perm (yo p s {gh with F:=l}++(x.Batch++yu s (zn s.M x.C).2.X)) _
   rw [hbt,List.nil_append,c]
   have:yo p s gh=yu s y++yo p s {gh with F:=l}:=by unfold yo;rw [a];simp [List.append_assoc]
   rw [this]
   exact List.perm_append_comm
 rw [if_neg p2]
 by_cases p3:x.PC=3
 ·rw [if_pos p3]
  intro S'
  have hb:=W.b3 p3
  have hbt:=K.bt (by omega)
  have eo:wg x=[x.Bin]:=zkr (.inl p3)
  rw [eC]
  have e1:wg {x with Batch:=WW s x.Bin,PC:=4,C:=za2 p (zD p) x.Bin}=[x.Bin]:=zkr (x:={x with Batch:=WW s x.Bin,PC:=4,C:=za2 p (zD p) x.Bin}) (.inr rfl)
  have hget: ∀b,1≤b→b∉wg x→(s.Bins.set x.Bin.toNat [])[b.toNat]? =s.Bins[b.toNat]? :=fun b b1 b2=>by
   rw [List.getElem?_set_ne]
   intro e
   rw [eo] at b2
   exact b2 (by rw [show b=x.Bin by omega];simp)
  refine ⟨gh,by rw [e1,←eo];exact X.quiet S' rfl,⟨fun _=>hc0,fun e=>absurd e (by show ¬(4:Int)≤3;decide),fun e=>(by cases e),fun e=>(by cases e),fun e=>(by cases e),fun _=>⟨rfl,⟨by show (0:Int)≤0;decide,by show (0:Int)≤2;decide⟩,rfl,CK.start⟩,fun e=>(by cases e)⟩,FX.quiet rfl hget,[],[],?_,.inl ⟨rfl,rfl,rfl⟩⟩
  have hbag:yo p {s with Bins:=s.Bins.set x.Bin.toNat []} gh=yo p s gh:=by
   unfold yo
   congr 1
   refine xx (fun b hb=> ?_)
   have hm:=X.L.cF.mem b hb
   have hno:=(X.L.notF (x:=x.Bin) (by rw [eo];simp)).1
   unfold yu
   rw [show ({s with Bins:=s.Bins.set x.Bin.toNat []}:za).Bins=s.Bins.set x.Bin.toNat [] from rfl,hget b hm.1 (by rw [eo];intro e;rw [List.mem_singleton.1 e] at hb;exact hno hb)]
  rw [hbag,List.append_nil,List.nil_append]
  unfold zJ
  rw [zBn p3,Yb (x:={x with Batch:=WW s x.Bin,PC:=4,C:=za2 p (zD p) x.Bin}) (.inr (.inr (.inl rfl)))]
  show List.Perm (yo p s gh++(WW s x.Bin++[])) _
  rw [hbt,List.append_nil,List.nil_append,zx0]
 rw [if_neg p3]
 by_cases p4:x.PC=4
 ·rw [if_pos p4]
  intro S'
  have S':SOk p nb {s with M:=(zn s.M x.C).1}:=S'
  have C:=W.c4 p4
  obtain ⟨c1,c2,c3,c4⟩:=K.p4 p4
  have eo:wg x=[x.Bin]:=zkr (.inr p4)
  have hh:zJ s x=x.Batch:=by unfold zJ;rw [Yb (.inr (.inr (.inl p4))),List.append_nil]
  rw [eo] at X
  dsimp only
  rcases SX.pushE hp (o1:=[]) (o2:=R) (b:=x.Bin) X hk C.k C.h C.n c3 c1 c2 c4 C.v S' with ⟨a,b,c,d⟩ | ⟨a,b,d⟩
  ·rw [a,if_neg (by decide)]
   have hout:=zbi s.M c1 c2 (.inl C.k)
   have hsame:=zl4 s.M x.C
   have hpc':0≤(zn s.M x.C).2.PC∧(zn s.M x.C).2.PC≤2:=by omega
   have e1:wg {x with C:=(zn s.M x.C).2}=[x.Bin]:=zkr (x:={x with C:=(zn s.M x.C).2}) (.inr p4)
   refine ⟨gh,by rw [e1];exact b,⟨fun _=>hc0,fun e=>by have e:x.PC≤3:=e;omega,fun e=>by have e:x.PC=0:=e;omega,fun e=>by have e:x.PC=1:=e;omega,fun e=>by have e:x.PC=2:=e;omega,fun _=>⟨a,hpc',(hsame.2.2.2 C.k).trans c3,c⟩,fun e=>by have e:x.PC=6:=e;omega⟩,by rw [eo];exact d _ _ (by simp),[],[],?_,.inl ⟨rfl,rfl,rfl⟩⟩
   rw [uI rfl,hh,List.append_nil]
   unfold zJ
   rw [Yb (x:={x with C:=(zn s.M x.C).2}) (.inr (.inr (.inl p4))),List.append_nil]
   exact List.Perm.refl _
  ·rw [a,if_pos rfl]
   refine ⟨{gh with E:=x.Bin::gh.E},by rw [vX (by show (7:Int)≠3;decide) (by show (7:Int)≠4;decide) (by show (7:Int)≠6;decide)];exact b,WX.plain (.inr (.inl rfl)) hc0,by rw [eo];exact d _ _,[],[],?_,.inl ⟨rfl,rfl,rfl⟩⟩
   rw [hh,List.append_nil]
   unfold zJ
   rw [Yb (.inr (.inr (.inr (.inl rfl)))),List.append_nil]
   exact List.Perm.refl _
 rw [if_neg p4]
 by_cases p5:x.PC=5
 ·rw [if_pos p5]
  intro S'
  have eo:wg x=[]:=vX (by omega) (by omega) (by omega)
  have hv:=hH x.Obj x.Slot
  dsimp only
  split
  ·rcases zkh s (wc (x.Slot+1)) with e | e<;>rw [e]
   ·refine .quiet X S' rfl rfl rfl (by rw [eo];exact vX (by show (5:Int)≠3;decide) (by show (5:Int)≠4;decide) (by show (5:Int)≠6;decide)) ?_ (WX.plain (.inl rfl) hc0)
    unfold zJ
    rw [UH (.inl p5),UH (.inl rfl)]
   ·refine .quiet X S' rfl rfl rfl (by rw [eo];exact vX (by show (8:Int)≠3;decide) (by show (8:Int)≠4;decide) (by show (8:Int)≠6;decide)) ?_ (WX.plain (.inr (.inr (.inl rfl))) hc0)
    unfold zJ
    rw [UH (.inl p5),UH (.inr rfl)]
  ·rename_i hne
   have e0:(ZG 1 (xA s.H x.Obj x.Slot) w).PC=0:=rfl
   refine .quiet X S' rfl rfl rfl ?_ ?_ ⟨fun _=>hc0,fun e=>absurd e (by show ¬(6:Int)≤3;decide),fun e=>(by cases e),fun e=>(by cases e),fun e=>(by cases e),fun e=>(by cases e),fun _=>⟨GX.plain (.inl rfl) ⟨by show (0:Int)≤0;decide,by show (0:Int)≤7;decide⟩ ⟨by show (1:Int)≤1;decide,by show (1:Int)≤3;decide⟩ ⟨by show 1≤xA s.H x.Obj x.Slot;omega,hv.2⟩ (fun _ _=>hc0) (.inr ⟨by show (0:Int)≠3;decide,by show (0:Int)≠5;decide,by show (0:Int)≠7;decide⟩),rfl,rfl,rfl⟩⟩
   ·rw [eo,zyC (x:={x with Slot:=wc (x.Slot+1),PC:=6,G:=ZG 1 (xA s.H x.Obj x.Slot) w}) rfl]
    exact vd (.inr ⟨by show (0:Int)≠6;decide,by show (0:Int)≠7;decide⟩)
   ·unfold zJ
    rw [UH (.inl p5),zxK (x:={x with Slot:=wc (x.Slot+1),PC:=6,G:=ZG 1 (xA s.H x.Obj x.Slot) w}) rfl]
    rw [Zm (g:=ZG 1 (xA s.H x.Obj x.Slot) w) (.inr (.inl (by show (0:Int)<3;decide)))]
 rw [if_neg p5]
 by_cases p6:x.PC=6
 ·rw [if_pos p6]
  intro S'
  obtain ⟨G,gm,gw,g0⟩:=K.p6 p6
  obtain ⟨M,h5o,_,hn4⟩:=W.g6 p6
  have eo:wg x=x8 x.G:=zyC p6
  have hh:zJ s x=x.Batch++x.Obj::yh x.G:=by unfold zJ;rw [zxK p6]
  rw [eo] at X
  obtain ⟨gh',X',G',Fx,hc',hFb,N,hN,hT⟩:=zAs hp hk X M h5o G
  have so:=UE s x.G
  have Fx':FX p nb (wg x) (fun v=>v=w) s (zx s x.G).1 gh gh':=by
   rw [eo]
   exact Fx.mono (fun v e=>e.2.trans gw)
  have hcw:gh'.c w=0:=by have:=hc' gm g0;rwa [gw] at this
  dsimp only
  have hT':(N=[]∧([]:List Int)=[]∧(zx s x.G).1.T=s.T)∨(N=[x.G.Obj]∧([]:List Int)=[]∧x.PC=6∧¬(s.T.Marks|||bit x.G.Obj=s.T.Marks)∧(zx s x.G).1.T={s.T with Marks:=s.T.Marks|||bit x.G.Obj})∨(N=[]∧([]:List Int)=[x.Obj]∧x.PC=8∧(zx s x.G).1.T=wJ s.T x.Obj):=by
   rcases hT with ⟨a,b⟩ | ⟨a,b,c⟩
   ·exact .inl ⟨a,rfl,b⟩
   ·exact .inr (.inl ⟨a,rfl,p6,b,c⟩)
  have perm: ∀H':List Int,H'=x.Batch++x.Obj::yh (zx s x.G).2→List.Perm (yo p (zx s x.G).1 gh'++H'++[]) (N++(yo p s gh++zJ s x)):=by
   intro H' e
   rw [e,hh,List.append_nil]
   have a1:List.Perm (yo p (zx s x.G).1 gh'++(x.Batch++x.Obj::yh (zx s x.G).2)) ((x.Batch++[x.Obj])++(yo p (zx s x.G).1 gh'++yh (zx s x.G).2)):=by
    rw [show x.Batch++x.Obj::yh (zx s x.G).2=(x.Batch++[x.Obj])++yh (zx s x.G).2 by simp]
    exact List.perm_append_comm_assoc _ _ _
   have a2:List.Perm (N++(yo p s gh++(x.Batch++x.Obj::yh x.G))) ((x.Batch++[x.Obj])++(N++(yo p s gh++yh x.G))):=by
    rw [show x.Batch++x.Obj::yh x.G=(x.Batch++[x.Obj])++yh x.G by simp]
    exact (List.Perm.append_left N (List.perm_append_comm_assoc _ _ _)).trans (List.perm_append_comm_assoc _ _ _)
   exact a1.trans ((List.Perm.append_left _ hN).trans a2.symm)
  split
  ·rename_i o1
   have n1:x8 (zx s x.G).2=[]:=vd (.inl (by omega))
   have n2:yh (zx s x.G).2=[]:=Zm (.inl (by omega))
   rw [n1] at X'
   rcases zkh s x.Slot with e | e<;>rw [e]
   ·refine ⟨gh',by rw [vX (by show (5:Int)≠3;decide) (by show (5:Int)≠4;decide) (by show (5:Int)≠6;decide)];exact X',WX.plain (.inl rfl) hcw,Fx',N,[],perm _ ?_,hT'⟩
    unfold zJ;rw [UH (.inl rfl),n2]
   ·refine ⟨gh',by rw [vX (by show (8:Int)≠3;decide) (by show (8:Int)≠4;decide) (by show (8:Int)≠6;decide)];exact X',WX.plain (.inr (.inr (.inl rfl))) hcw,Fx',N,[],perm _ ?_,hT'⟩
    unfold zJ;rw [UH (.inr rfl),n2]
  ·rename_i o1
   have o0:(zx s x.G).2.Out=0:=by have:=G'.o;omega
   refine ⟨gh',by rw [zyC (x:={x with G:=(zx s x.G).2}) p6];exact X',⟨fun _=>hcw,fun e=>by have e:x.PC≤3:=e;omega,fun e=>by have e:x.PC=0:=e;omega,fun e=>by have e:x.PC=1:=e;omega,fun e=>by have e:x.PC=2:=e;omega,fun e=>by have e:x.PC=4:=e;omega,fun _=>⟨G',so.2.2.trans gm,so.2.1.trans gw,o0⟩⟩,Fx',N,[],perm _ ?_,hT'⟩
   unfold zJ;rw [zxK (x:={x with G:=(zx s x.G).2}) p6]
 rw [if_neg p6]
 have eo:wg x=[]:=vX (by omega) (by omega) (by omega)
 by_cases p7:x.PC=7
 ·rw [if_pos p7]
  intro S'
  dsimp only
  split
  ·rename_i hb
   rw [eB]
   refine .quiet X S' rfl rfl rfl (by rw [eo];exact vX (by show (0:Int)≠3;decide) (by show (0:Int)≠4;decide) (by show (0:Int)≠6;decide)) ?_ (WX.begin hc0 hb)
   unfold zJ
   rw [zia,Yb (.inr (.inr (.inr (.inl p7))))]
   exact List.Perm.refl _
  ·rename_i o l hb
   refine .quiet X S' rfl rfl rfl (by rw [eo];exact vX (by show (5:Int)≠3;decide) (by show (5:Int)≠4;decide) (by show (5:Int)≠6;decide)) ?_ (WX.plain (.inl rfl) hc0)
   unfold zJ
   rw [UH (.inl rfl),Yb (.inr (.inr (.inr (.inl p7)))),hb,List.append_nil]
   exact List.perm_append_comm
 rw [if_neg p7]
 by_cases p8:x.PC=8
 ·rw [if_pos p8]
  intro S'
  refine ⟨gh,by rw [vX (by show (9:Int)≠3;decide) (by show (9:Int)≠4;decide) (by show (9:Int)≠6;decide)];rw [eo] at X;exact X.quiet S' rfl,WX.plain (.inr (.inr (.inr rfl))) hc0,FX.quiet rfl (fun _ _ _=>rfl),[],[x.Obj],?_,.inr (.inr ⟨rfl,rfl,p8,rfl⟩)⟩
  rw [uI rfl,List.nil_append]
  unfold zJ
  rw [UH (.inr p8),Yb (.inr (.inr (.inr (.inr rfl)))),List.append_nil,List.append_assoc]
  exact List.Perm.refl _
 rw [if_neg p8]
 have p9:x.PC=9:=by omega
 rw [if_pos p9]
 intro S'
 refine .quiet X S' rfl rfl rfl (by rw [eo];exact vX (by show (7:Int)≠3;decide) (by show (7:Int)≠4;decide) (by show (7:Int)≠6;decide)) ?_ (WX.plain (.inr (.inl rfl)) hc0)
 unfold zJ
 rw [Yb (.inr (.inr (.inr (.inr p9)))),Yb (.inr (.inr (.inr (.inl rfl))))]
theorem zyh (s:za) (w:Int) (x:zh) (h:(zp s w x).2.PC=6):(x.PC=6∧(zp s w x).2.G.Obj=x.G.Obj)∨(x.PC=5∧(zp s w x).2.G.Obj=xA s.H x.Obj x.Slot):=by
 revert h
 have hon: ∀i,onW s i≠6:=fun i e=>by rcases zkh s i with h | h<;>omega
 have hlk: ∀y:zh,(Yn s.P w y).PC≠6:=fun y e=>by unfold Yn at e;split at e<;>cases e
 unfold zp
 split
 ·rename_i h0
  dsimp only
  split
  ·exact fun e=>by cases e
  split
  ·exact fun e=>absurd e (hlk _)
  ·exact fun e=>by have e:x.PC=6:=e;omega
 split
 ·dsimp only
  split
  ·exact fun e=>by cases e
  split
  ·exact fun e=>by cases e
  ·exact fun e=>by have e:x.PC=6:=e;omega
 split
 ·exact fun e=>by cases e
 split
 ·dsimp only
  split
  ·exact fun e=>by cases e
  ·exact fun e=>by have e:x.PC=6:=e;omega
 split
 ·rename_i h5
  dsimp only
  split
  ·exact fun e=>absurd e (hon _)
  ·exact fun _=> .inr ⟨h5,rfl⟩
 split
 ·rename_i h6
  dsimp only
  split
  ·exact fun e=>absurd e (hon _)
  ·exact fun _=> .inl ⟨h6,(UE s x.G).1⟩
 split
 ·dsimp only
  split
  ·exact fun e=>by cases e
  ·exact fun e=>by cases e
 split
 ·exact fun e=>by cases e
 split
 ·exact fun e=>by cases e
 ·exact fun e=> .inl ⟨e,rfl⟩
end
end Go.Pe.G
namespace Go.Pe.G
open Go.Pe
noncomputable section
theorem zu0 {o:Int} (h:1≤o∧o≤64) (j:Nat):(bit o).getLsbD j=decide ((o-1).toNat=j):=by
 unfold bit
 rw [if_pos h,←BitVec.twoPow_eq,BitVec.getLsbD_twoPow,decide_eq_true (by omega:(o-1).toNat<64),Bool.true_and]
theorem xK (s:BitVec 64) (o:Int):z5 s o=true↔1≤o∧o≤64∧s.getLsbD (o-1).toNat=true:=by
 unfold z5
 rw [Bool.not_eq_true',decide_eq_false_iff_not]
 by_cases h:1≤o∧o≤64
 ·constructor
  ·intro h1
   refine ⟨h.1,h.2,Classical.byContradiction (fun h2=>h1 ?_)⟩
   apply BitVec.eq_of_getLsbD_eq
   intro j hj
   rw [BitVec.getLsbD_and,zu0 h,BitVec.getLsbD_zero]
   by_cases e:(o-1).toNat=j
   ·rw [←e];simp only [Bool.not_eq_true] at h2;rw [h2];rfl
   ·rw [decide_eq_false e,Bool.and_false]
  ·rintro ⟨_,_,h1⟩ h2
   have:=congrArg (fun v=>BitVec.getLsbD v (o-1).toNat) h2
   simp only [BitVec.getLsbD_and,zu0 h,h1,BitVec.getLsbD_zero] at this
   simp at this
 ·constructor
  ·intro h1
   exact absurd (by unfold bit;rw [if_neg h,BitVec.and_zero]) h1
  ·rintro ⟨a,b,_⟩;exact absurd ⟨a,b⟩ h
theorem wb (s:BitVec 64) {o:Int} (h:1≤o∧o≤64) (q:Int):z5 (s|||bit o) q=true↔z5 s q=true∨q=o:=by
 rw [xK,xK,BitVec.getLsbD_or,zu0 h]
 simp only [Bool.or_eq_true,decide_eq_true_eq]
 constructor
 ·rintro ⟨a,b,c | c⟩
  ·exact .inl ⟨a,b,c⟩
  ·exact .inr (by omega)
 ·rintro (⟨a,b,c⟩ | rfl)
  ·exact ⟨a,b,.inl c⟩
  ·exact ⟨h.1,h.2,.inr rfl⟩
theorem zcz (s t:BitVec 64) (q:Int):z5 (s&&&t) q=true↔z5 s q=true∧z5 t q=true:=by
 rw [xK,xK,xK,BitVec.getLsbD_and]
 simp only [Bool.and_eq_true]
 constructor
 ·rintro ⟨a,b,c,d⟩;exact ⟨⟨a,b,c⟩,a,b,d⟩
 ·rintro ⟨⟨a,b,c⟩,_,_,d⟩;exact ⟨a,b,c,d⟩
theorem WN (q:Int): ¬z5 0#64 q=true:=by
 rw [xK,BitVec.getLsbD_zero];exact fun h=>by cases h.2.2
theorem zvy {s t:BitVec 64} (h: ∀o,z5 s o=true↔z5 t o=true):s=t:=by
 apply BitVec.eq_of_getLsbD_eq
 intro j hj
 have:=h ((j:Int)+1)
 rw [xK,xK,show ((j:Int)+1-1).toNat=j by omega] at this
 rw [Bool.eq_iff_iff]
 exact ⟨fun e=>(this.1 ⟨by omega,by omega,e⟩).2.2,fun e=>(this.2 ⟨by omega,by omega,e⟩).2.2⟩
theorem zbk {m:BitVec 64} {o:Int} (h:1≤o∧o≤64): ¬(m|||bit o=m)↔¬z5 m o=true:=by
 constructor
 ·intro h1 h2
  refine h1 (zvy (fun q=> ?_))
  rw [wb _ h]
  exact ⟨fun e=>e.elim id (fun e=>by rw [e];exact h2),.inl⟩
 ·intro h1 h2
  refine h1 ?_
  rw [←h2,wb _ h];exact .inr rfl
theorem WV (t:zo) (o:Int):wR t o=1↔z5 t.Marks o=true∧¬z5 t.Black o=true:=by
 unfold wR
 by_cases h1:z5 (t.Marks&&&t.Black) o=true
 ·rw [if_pos h1]
  rw [zcz] at h1
  exact ⟨fun e=>(by cases e),fun e=>absurd h1.2 e.2⟩
 ·rw [if_neg h1]
  rw [zcz] at h1
  by_cases h2:z5 t.Marks o=true
  ·rw [if_pos h2];exact ⟨fun _=>⟨h2,fun e=>h1 ⟨h2,e⟩⟩,fun _=>rfl⟩
  ·rw [if_neg h2];exact ⟨fun e=>(by cases e),fun e=>absurd e.1 h2⟩
end
end Go.Pe.G
namespace Go.Pe.G
open Go.Pe
noncomputable section
theorem zrD {α:Type} {l:List α} {i:Nat} {x:α} (h:l[i]? =some x): ∃a b,l=a++x::b∧(∀y,l.set i y=a++y::b)∧(∀z∈a++b,∃j,j≠i∧l[j]? =some z) ∧
  (∀j z,j≠i→l[j]? =some z→z∈a++b):=by
 obtain ⟨hi,e⟩:=List.getElem?_eq_some_iff.1 h
 have hl:(l.take i).length=i:=by rw [List.length_take];omega
 have el:l=l.take i++x::l.drop (i+1):=by
  conv=>lhs;rw [←List.take_append_drop i l,List.drop_eq_getElem_cons hi,e]
 refine ⟨l.take i,l.drop (i+1),el,fun y=> ?_,fun z hz=> ?_,fun j z hj hz=> ?_⟩
 ·rw [List.set_eq_take_append_cons_drop,if_pos hi]
 ·rcases List.mem_append.1 hz with hz | hz
  ·obtain ⟨j,hj⟩:=List.mem_iff_getElem?.1 hz
   obtain ⟨hj1,hj2⟩:=List.getElem?_eq_some_iff.1 hj
   have hj3:j<i:=by omega
   exact ⟨j,by omega,by rw [List.getElem?_take_of_lt hj3] at hj;exact hj⟩
  ·obtain ⟨j,hj⟩:=List.mem_iff_getElem?.1 hz
   exact ⟨i+1+j,by omega,by rw [List.getElem?_drop] at hj;exact hj⟩
 ·rw [el] at hz
  rcases Nat.lt_or_ge j i with h1 | h1
  ·rw [List.getElem?_append_left (by omega)] at hz
   exact List.mem_append_left _ (List.mem_of_getElem? hz)
  ·rw [List.getElem?_append_right (by omega),hl] at hz
   rw [show j-i=(j-i-1)+1 by omega,List.getElem?_cons_succ] at hz
   exact List.mem_append_right _ (List.mem_of_getElem? hz)
theorem u9 {α β:Type} {f:α→List β} {a b:List α} {x:α}:List.Perm ((a++x::b).flatMap f) (f x++(a++b).flatMap f):=by
 rw [List.flatMap_append,List.flatMap_cons,List.flatMap_append]
 exact List.perm_append_comm_assoc _ _ _
theorem SX.perm {p:zb} {nb k:Nat} {s:za} {g:Gh} {o o':List Int} (X:SX p nb s g o k) (h:List.Perm o' o):SX p nb s g o' k :=
 ⟨X.S,⟨X.L.hs,X.L.cF,X.L.cE,(List.Perm.append_left _ h).trans X.L.all,X.L.len⟩,X.D,X.v,X.dk⟩
theorem SX.state {p:zb} {nb k:Nat} {s s':za} {g:Gh} {o:List Int} (X:SX p nb s g o k) (S':SOk p nb s') (hm:s'.M=s.M):SX p nb s' g o k :=
 ⟨S',by rw [hm];exact X.L,by rw [hm];exact X.D,by rw [hm];exact X.v,X.dk⟩
theorem GX.state {p:zb} {s s':za} {gh:Gh} {g:zu} (G:GX p s gh g) (hm:s'.M=s.M) (hb:s'.Bins=s.Bins):GX p s' gh g :=
 ⟨G.o,G.pc,G.md,G.ob,G.c0,by rw [hm];exact G.c5,by rw [hm,hb];exact G.c7,by rw [hm];exact G.d3⟩
theorem WX.state {p:zb} {s s':za} {gh:Gh} {w:Int} {x:zh} (W:WX p s gh w x) (hm:s'.M=s.M) (hb:s'.Bins=s.Bins):WX p s' gh w x :=
 ⟨W.c0,W.bt,by rw [hm];exact W.p0,by rw [hm];exact W.p1,by rw [hm];exact W.p2,by rw [hm];exact W.p4,fun e=>⟨(W.p6 e).1.state hm hb,(W.p6 e).2⟩⟩
theorem zbU {s s':za} {x:zh} (hm:s'.M=s.M) (hb:s'.Bins=s.Bins):zJ s' x=zJ s x:=by
 unfold zJ Ut yu;rw [hm,hb]
def zpg (p:zb) (s:za) (g:Gh):List Int:=yo p s g++s.Ws.flatMap (zJ s)
structure zae (B:List Int) (t:zo):Prop where
 blk: ∀o,z5 t.Black o=true→z5 t.Marks o=true
 nd:B.Nodup
 gr: ∀o,o∈B↔wR t o=1
theorem zio {t:zo} {o:Int} (h:wR t o=1):1≤o∧o≤64:=by
 have:=(xK _ _).1 ((WV t o).1 h).1
 exact ⟨this.1,this.2.1⟩
theorem zae.more {B B':List Int} {t:zo} {o:Int} (K:zae B t) (ho:1≤o∧o≤64) (hn: ¬(t.Marks|||bit o=t.Marks)) (h:List.Perm B' (o::B)):zae B' {t with Marks:=t.Marks|||bit o}:=by
 have hn:=(zbk ho).1 hn
 have hnb: ¬z5 t.Black o=true:=fun e=>hn (K.blk o e)
 have hno:o∉B:=fun e=>hn ((WV t o).1 ((K.gr o).1 e)).1
 refine ⟨fun q hq=>(wb _ ho q).2 (.inl (K.blk q hq)),h.nodup_iff.2 (List.nodup_cons.2 ⟨hno,K.nd⟩),fun q=> ?_⟩
 rw [h.mem_iff,List.mem_cons,K.gr,WV,WV]
 show q=o∨_↔z5 (t.Marks|||bit o) q=true∧¬z5 t.Black q=true
 rw [wb _ ho]
 constructor
 ·rintro (rfl | ⟨a,b⟩)
  ·exact ⟨.inr rfl,hnb⟩
  ·exact ⟨.inl a,b⟩
 ·rintro ⟨a | a,b⟩
  ·exact .inr ⟨a,b⟩
  ·exact .inl a
theorem zae.less {B B':List Int} {t:zo} {o:Int} (K:zae B t) (h:List.Perm (B'++[o]) B):zae B' (wJ t o)∧(wJ t o).Marks=t.Marks∧wR t o=1∧∀q,z5 (wJ t o).Black q=true↔z5 t.Black q=true∨q=o:=by
 have ho:wR t o=1:=(K.gr o).1 (h.mem_iff.1 (by simp))
 have hr:=zio ho
 have hm:=((WV t o).1 ho)
 have hnd:=h.nodup_iff.2 K.nd
 have hnd:=List.nodup_append.1 hnd
 unfold wJ
 rw [if_pos ho]
 refine ⟨⟨fun q hq=> ?_,hnd.1,fun q=> ?_⟩,rfl,ho,fun q=>wb _ hr q⟩
 ·rcases (wb _ hr q).1 hq with e | e
  ·exact K.blk q e
  ·rw [e];exact hm.1
 ·have e1:q∈B↔q∈B'∨q=o:=by rw [←h.mem_iff,List.mem_append,List.mem_singleton]
  rw [K.gr,WV] at e1
  rw [WV]
  show _↔z5 t.Marks q=true∧¬z5 (t.Black|||bit o) q=true
  rw [wb _ hr]
  constructor
  ·intro hq
   have:=e1.2 (.inl hq)
   exact ⟨this.1,fun e=>e.elim this.2 (fun e=>hnd.2.2 q hq o (by simp) e)⟩
  ·rintro ⟨a,b⟩
   rcases e1.1 ⟨a,fun e=>b (.inl e)⟩ with e | e
   ·exact e
   ·exact absurd (.inr e) b
theorem HOk.get {p:zb} (hp:zB p) {h:zt} (H:HOk p h) (o i:Int):0≤xA h o i∧xA h o i≤64:=by
 have h1:=H.n
 have h2:p.Most≤64:=by have:=hp.most;have:=hp.n;omega
 unfold xA
 split
 ·unfold zV
  rw [List.getD_eq_getElem?_getD,List.getD_eq_getElem?_getD]
  cases hx:h.Objs[(o-1).toNat]? with
  | none=>show 0≤(([]:List Int)[i.toNat]?).getD 0∧_;simp
  | some l =>
   show 0≤(l[i.toNat]?).getD 0∧(l[i.toNat]?).getD 0≤64
   cases hv:l[i.toNat]? with
   | none=>show (0:Int)≤0∧(0:Int)≤64;decide
   | some v =>
    have:=(H.objs l (List.mem_of_getElem? hx)).2 v (List.mem_of_getElem? hv)
    show 0≤v∧v≤64;omega
 ·exact ⟨by decide,by decide⟩
structure WG (p:zb) (nb k:Nat) (s:za) (gh:Gh):Prop where
 E:EOk p nb s
 X:SX p nb s gh (s.Ws.flatMap wg) k
 W: ∀(i:Nat) x,s.Ws[i]? =some x→WX p s gh ((i:Int)+1) x
 B:zae (zpg p s gh) s.T
def zD1 (s s':za) (w:Int):Prop :=
 s'.T=s.T∨(∃x o,s.Ws[(w-1).toNat]? =some x∧x.PC=6∧o=x.G.Obj∧(1≤o∧o≤64)∧¬z5 s.T.Marks o=true∧s'.T={s.T with Marks:=s.T.Marks|||bit o}) ∨
  (∃x,s.Ws[(w-1).toNat]? =some x∧x.PC=8∧wR s.T x.Obj=1∧s'.T={s.T with Black:=s.T.Black|||bit x.Obj})
theorem WG.step {p:zb} (hp:zB p) {nb k:Nat} {s:za} {gh:Gh} (hk:k<4294960000) (G:WG p nb k s gh) {w:Int} (hw:1≤w∧w≤p.Workers) (hd:s.Done=false): ∃gh',WG p nb (k+1) (yy s w) gh'∧zD1 s (yy s w) w:=by
 have hE:=zst hp G.E w
 have hwl:=G.E.wl
 have e0: ¬(s.Done=true∨w<1∨(s.Ws.length:Int)<w):=by rw [hd];rintro (e | e | e)<;>first | cases e | omega
 revert hE
 unfold yy
 rw [if_neg e0]
 have hi:(w-1).toNat<s.Ws.length:=by omega
 have hx:=List.getElem?_eq_getElem hi
 generalize s.Ws[(w-1).toNat]=x at hx
 rw [hx]
 dsimp only
 intro hE
 obtain ⟨a,b,el,es,hab,hba⟩:=zrD hx
 have ei:(((w-1).toNat:Nat):Int)+1=w:=by omega
 have hWX:=G.W _ x hx
 have hWO:=G.E.W _ x hx
 rw [ei] at hWX hWO
 have X0:SX p nb s gh (wg x++(a++b).flatMap wg) k:=G.X.perm (by rw [el];exact u9.symm)
 obtain ⟨gh',X',W',Fx,N,C,hN,hT⟩:=zDX hp hk hw X0 hWO hWX (fun o i=>G.E.H.get hp o i)
 have hoth: ∀(j:Nat) y,j≠(w-1).toNat→s.Ws[j]? =some y→WX p (zp s w x).1 gh' ((j:Int)+1) y∧zJ (zp s w x).1 y=zJ s y:=by
  intro j y hj hy
  have hjl:=(List.getElem?_eq_some_iff.1 hy).1
  exact WX.other hp (w:=(j:Int)+1) (by omega) X0 Fx (G.W j y hy) (G.E.W j y hy) (fun z hz=>List.mem_flatMap.2 ⟨y,hba j y hj hy,hz⟩) (fun e=>hj (by omega))
 have hbag:List.Perm (zpg p {(zp s w x).1 with Ws:=s.Ws.set (w-1).toNat (zp s w x).2} gh'++C) (N++zpg p s gh):=by
  unfold zpg
  have q1:yo p {(zp s w x).1 with Ws:=s.Ws.set (w-1).toNat (zp s w x).2} gh'=yo p (zp s w x).1 gh':=rfl
  have q2:(s.Ws.set (w-1).toNat (zp s w x).2).flatMap (zJ {(zp s w x).1 with Ws:=s.Ws.set (w-1).toNat (zp s w x).2})=(a++(zp s w x).2::b).flatMap (zJ (zp s w x).1):=by
   rw [es];exact xx (fun y _=>zbU rfl rfl)
  have q3:(a++b).flatMap (zJ (zp s w x).1)=(a++b).flatMap (zJ s):=xx (fun y hy=>by
   obtain ⟨j,hj,hjy⟩:=hab y hy
   exact (hoth j y hj hjy).2)
  rw [q1]
  show List.Perm (yo p (zp s w x).1 gh'++(s.Ws.set (w-1).toNat (zp s w x).2).flatMap (zJ {(zp s w x).1 with Ws:=s.Ws.set (w-1).toNat (zp s w x).2})++C) _
  rw [q2]
  have r1:List.Perm (yo p (zp s w x).1 gh'++(a++(zp s w x).2::b).flatMap (zJ (zp s w x).1)++C) ((a++b).flatMap (zJ s)++(yo p (zp s w x).1 gh'++zJ (zp s w x).1 (zp s w x).2++C)):=by
   refine ((List.Perm.append_left _ u9).append_right C).trans ?_
   rw [q3,List.append_assoc,List.append_assoc,List.append_assoc]
   refine (List.perm_append_comm_assoc _ _ _).trans ?_
   refine (List.Perm.append_left _ (List.perm_append_comm_assoc _ _ _)).trans ?_
   refine (List.perm_append_comm_assoc _ _ _).trans (List.Perm.append_left _ ?_)
   exact List.perm_append_comm_assoc _ _ _
  have r2:List.Perm (N++(yo p s gh++s.Ws.flatMap (zJ s))) ((a++b).flatMap (zJ s)++(N++(yo p s gh++zJ s x))):=by
   conv=>lhs;rw [el]
   refine (List.Perm.append_left _ (List.Perm.append_left _ u9)).trans ?_
   refine (List.Perm.append_left _ ?_).trans (List.perm_append_comm_assoc _ _ _)
   rw [←List.append_assoc]
   exact List.perm_append_comm
  exact r1.trans ((List.Perm.append_left _ hN).trans r2.symm)
 have fin:zae (zpg p {(zp s w x).1 with Ws:=s.Ws.set (w-1).toNat (zp s w x).2} gh') (zp s w x).1.T→WG p nb (k+1) {(zp s w x).1 with Ws:=s.Ws.set (w-1).toNat (zp s w x).2} gh':=by
  intro hB
  refine ⟨hE,?_,fun j y hy=> ?_,hB⟩
  ·refine (X'.state hE.S rfl).perm ?_
   show List.Perm ((s.Ws.set (w-1).toNat (zp s w x).2).flatMap wg) _
   rw [es];exact u9
  ·have hy:(s.Ws.set (w-1).toNat (zp s w x).2)[j]? =some y:=hy
   by_cases hj:j=(w-1).toNat
   ·subst hj
    rw [List.getElem?_set_self hi] at hy
    injection hy with hy
    rw [←hy,ei]
    exact W'.state rfl rfl
   ·rw [List.getElem?_set_ne (fun e=>hj e.symm)] at hy
    exact (hoth j y hj hy).1.state rfl rfl
 refine ⟨gh',?_⟩
 rcases hT with ⟨rfl,rfl,t1⟩ | ⟨rfl,rfl,t1,t2,t3⟩ | ⟨rfl,rfl,t1,t2⟩
 ·rw [List.append_nil,List.nil_append] at hbag
  refine ⟨fin ⟨?_,hbag.nodup_iff.2 G.B.nd,fun o=> ?_⟩,.inl t1⟩
  ·rw [t1];exact G.B.blk
  ·rw [t1,hbag.mem_iff];exact G.B.gr o
 ·have ho:=((hWX.p6 t1).1).ob
  rw [List.append_nil] at hbag
  refine ⟨fin ?_,.inr (.inl ⟨x,x.G.Obj,hx,t1,rfl,ho,(zbk ho).1 t2,t3⟩)⟩
  rw [t3]
  exact G.B.more ho t2 hbag
 ·rw [List.nil_append] at hbag
  obtain ⟨b1,b2,b3,b4⟩:=G.B.less hbag
  refine ⟨fin ?_,.inr (.inr ⟨x,hx,t1,b3,?_⟩)⟩
  ·rw [t2];exact b1
  ·show (zp s w x).1.T=_
   rw [t2];unfold wJ;rw [if_pos b3]
end
end Go.Pe.G
namespace Go.Pe.G
open Go.Pe
noncomputable section
theorem znG {N:Int} {nb:Nat} (hN:0≤N∧N<1000) (hnb:nb<1000): ∀(l:List Int) (m:List (BitVec 64)) (a:Int),(∀x∈l,1≤x∧x<nb)→(∀x∈l,a≠N+x)→ld (links m N l) a=ld m a
 | [],m,a,_,_=>rfl
 | [x],m,a,h,h2=>by
  have:=h x (by simp)
  have:=h2 x (by simp)
  rw [links,xu (by omega) (by omega)]
  exact yn (by omega)
 | x::y::l,m,a,h,h2=>by
  have:=h x (by simp)
  have:=h2 x (by simp)
  rw [links,znG hN hnb (y::l) _ a (fun z hz=>h z (List.mem_cons_of_mem _ hz)) (fun z hz=>h2 z (List.mem_cons_of_mem _ hz)),xu (by omega) (by omega)]
  exact yn (by omega)
theorem zpd {N:Int} {nb:Nat} (hN:0≤N∧N<1000) (hnb:nb<1000): ∀(l:List Int) (m:List (BitVec 64)),(∀x∈l,1≤x∧x<nb)→l.Nodup→N+nb≤m.length→Chn (links m N l) N nb (l.headD 0) l
 | [],m,_,_,_=>rfl
 | [x],m,h,_,hl=>by
  have:=h x (by simp)
  refine ⟨rfl,this.1,this.2,?_⟩
  rw [links,xu (by omega) (by omega),Wh,if_pos ⟨rfl,by omega,by omega⟩]
  rfl
 | x::y::l,m,h,hd,hl=>by
  have hx:=h x (by simp)
  have hy:=h y (by simp)
  have hd:=List.nodup_cons.1 hd
  refine ⟨rfl,hx.1,hx.2,?_⟩
  have ih:=zpd hN hnb (y::l) (st m (wc (N+x)) (BitVec.ofInt 64 y)) (fun z hz=>h z (List.mem_cons_of_mem _ hz)) hd.2 (by rw [ZK];exact hl)
  rw [links,znG hN hnb (y::l) _ (N+x) (fun z hz=>h z (List.mem_cons_of_mem _ hz)) (fun z hz e=>hd.1 (by rw [znl e] at hz;exact hz)),xu (by omega) (by omega),Wh,if_pos ⟨rfl,by omega,by omega⟩,toInt_ofInt (by omega) (by omega)]
  rw [xu (by omega) (by omega)] at ih
  exact ih
theorem Chn.links {N:Int} {nb:Nat} (hN:0≤N∧N<1000) (hnb:nb<1000) {l r:List Int} {h:Int} {m:List (BitVec 64)} (hr: ∀x∈r,1≤x∧x<nb) (hd: ∀x∈l,x∉r) (c:Chn m N nb h l):Chn (Go.Pe.G.links m N r) N nb h l:=by
 induction l generalizing h with
 | nil=>exact c
 | cons y l ih =>
  refine ⟨c.1,c.2.1,c.2.2.1,?_⟩
  rw [znG hN hnb r m (N+y) hr (fun z hz e=>hd y (by simp) (by rw [znl e] at hz;exact hz))]
  exact ih (fun x hx=>hd x (List.mem_cons_of_mem _ hx)) c.2.2.2
theorem zxu {l:List Int} {nb:Nat} (h: ∀x∈l,1≤x∧x<nb) (hnb:nb<1000):0≤l.headD 0∧l.headD 0<4294967296:=by
 cases l with
 | nil=>exact ⟨by decide,by decide⟩
 | cons a r=>have:=h a (by simp);show 0≤a∧a<4294967296;omega
theorem zBU {p:zb} (h:zB p):LI p (zQ p+1) (yv p).M (zY p) (zD p) ((xl (zQ p)).take (yV p).length) ((xl (zQ p)).drop (yV p).length) []∧xf (ld (yv p).M (zY p))=0∧xf (ld (yv p).M (zD p))=0:=by
 have hb:=zcA h
 have hF:=Zq h
 have hE:=wp h
 have hcl:=Ur p p.Workers.toNat
 have hw:=h.wk
 have hc:=h.cap
 have hfe:zY p=((p.Workers.toNat*(p.Cap.toNat+2):Nat):Int):=by
  rw [hF.1]
  have e1:p.Workers=((p.Workers.toNat:Nat):Int):=by omega
  have e2:p.Cap+2=((p.Cap.toNat+2:Nat):Int):=by omega
  rw [e2,Int.natCast_mul]
  rw [←e1]
 have hN:0≤zD p∧zD p<1000:=by omega
 have hnb:zQ p+1<1000:=by omega
 generalize hk:(yV p).length=k
 have t1: ∀x∈(xl (zQ p)).take k,1≤x∧x<((zQ p+1:Nat):Int):=fun x hx=>by have:=zeR (List.mem_of_mem_take hx);omega
 have t2: ∀x∈(xl (zQ p)).drop k,1≤x∧x<((zQ p+1:Nat):Int):=fun x hx=>by have:=zeR (List.mem_of_mem_drop hx);omega
 have nd:((xl (zQ p)).take k++(xl (zQ p)).drop k).Nodup:=by rw [List.take_append_drop];exact zrs (zQ p+1)
 have nd3:=List.nodup_append.1 nd
 have eM:(yv p).M=zcv (zcv (Yr p p.Workers.toNat++List.replicate (2+zQ p) 0#64) (zY p) (zD p) ((xl (zQ p)).take k)) (zD p) (zD p) ((xl (zQ p)).drop k):=by rw [←hk];rfl
 rw [eM]
 generalize hm0:Yr p p.Workers.toNat++List.replicate (2+zQ p) 0#64=m0
 have l0:zD p+((zQ p+1:Nat):Int)≤m0.length:=by
  rw [←hm0,List.length_append,hcl,List.length_replicate];omega
 have p1:=zxu t1 hnb
 have p2:=zxu t2 hnb
 have v0: ∀n:Int,0≤n→n<4294967296→xf (xd 0#64 n)=0:=fun n h1 h2=>by
  unfold xf;rw [ztX _ h1 h2];show (0*4294967296+n.toNat)/4294967296=0;omega
 have c1:=zpd hN hnb _ m0 t1 nd3.1 l0
 generalize hm1:links m0 (zD p) ((xl (zQ p)).take k)=m1 at c1
 have l1:m1.length=m0.length:=by rw [←hm1,zcP]
 have c1':=(c1.st_head h (a:=zY p) (v:=xd 0#64 (((xl (zQ p)).take k).headD 0)) (.inl rfl)).links hN hnb t2 (fun x hx hx2=>nd3.2.2 x hx x hx2 rfl)
 have c2:=zpd hN hnb _ (st m1 (zY p) (xd 0#64 (((xl (zQ p)).take k).headD 0))) t2 nd3.2.1 (by rw [ZK,l1];exact l0)
 have hd1:ld (links (st m1 (zY p) (xd 0#64 (((xl (zQ p)).take k).headD 0))) (zD p) ((xl (zQ p)).drop k)) (zY p)=xd 0#64 (((xl (zQ p)).take k).headD 0):=by
  rw [znG hN hnb _ _ _ t2 (fun x hx=>by have:=t2 x hx;omega),Wh,if_pos ⟨rfl,by omega,by omega⟩]
 unfold zcv
 rw [hm1]
 generalize hm2:links (st m1 (zY p) (xd 0#64 (((xl (zQ p)).take k).headD 0))) (zD p) ((xl (zQ p)).drop k)=m2 at c1' c2 hd1
 have l2:m2.length=m0.length:=by rw [←hm2,zcP,ZK,l1]
 have g1:ld (st m2 (zD p) (xd 0#64 (((xl (zQ p)).drop k).headD 0))) (zY p)=xd 0#64 (((xl (zQ p)).take k).headD 0):=by rw [yn (by omega),hd1]
 have g2:ld (st m2 (zD p) (xd 0#64 (((xl (zQ p)).drop k).headD 0))) (zD p)=xd 0#64 (((xl (zQ p)).drop k).headD 0):=by rw [Wh,if_pos ⟨rfl,by omega,by omega⟩]
 refine ⟨⟨.inl ⟨rfl,rfl⟩,?_,?_,?_,by rw [ZK,l2];exact l0⟩,?_,?_⟩
 ·rw [g1,zcX _ p1.1 p1.2]
  exact c1'.st_head h (.inr rfl)
 ·rw [g2,zcX _ p2.1 p2.2]
  exact c2.st_head h (.inr rfl)
 ·rw [List.append_nil,List.take_append_drop]
  exact List.Perm.refl _
 ·rw [g1];exact v0 _ p1.1 p1.2
 ·rw [g2];exact v0 _ p2.1 p2.2
end
end Go.Pe.G
namespace Go.Pe.G
open Go.Pe
noncomputable section
theorem zo4 {N:Int} (hN:0≤N∧N<1000): ∀(l:List Int) (m:List (BitVec 64)) (a:Int),(∀x∈l,1≤x∧x<1000)→a≤N→ld (links m N l) a=ld m a
 | [],m,a,_,_=>rfl
 | [x],m,a,h,h2=>by
  have:=h x (by simp)
  rw [links,xu (by omega) (by omega)]
  exact yn (by omega)
 | x::y::l,m,a,h,h2=>by
  have:=h x (by simp)
  rw [links,zo4 hN (y::l) _ a (fun z hz=>h z (List.mem_cons_of_mem _ hz)) h2,xu (by omega) (by omega)]
  exact yn (by omega)
theorem zEF {p:zb} (h:zB p) {a:Int} (ha:a<zY p):ld (yv p).M a=ld (Yr p p.Workers.toNat++List.replicate (2+zQ p) 0#64) a:=by
 have hb:=zcA h
 have hF:=Zq h
 have hE:=wp h
 have t1: ∀x∈(xl (zQ p)).take (yV p).length,1≤x∧x<1000:=fun x hx=>by have:=zeR (List.mem_of_mem_take hx);omega
 have t2: ∀x∈(xl (zQ p)).drop (yV p).length,1≤x∧x<1000:=fun x hx=>by have:=zeR (List.mem_of_mem_drop hx);omega
 show ld (zcv (zcv _ (zY p) (zD p) _) (zD p) (zD p) _) a=_
 unfold zcv
 rw [yn (by omega),zo4 (by omega) _ _ _ t2 (by omega),yn (by omega),zo4 (by omega) _ _ _ t1 (by omega)]
theorem zv1 (p:zb): ∀(k i j:Nat),i<k→j<p.Cap.toNat+2→(Yr p k)[i*(p.Cap.toNat+2)+j]? =(zgd p.Cap)[j]?
 | 0,i,j,h,_=>by omega
 | k+1,i,j,h,hj=>by
  rw [zmv]
  have hl:=Ur p k
  rcases Nat.lt_or_ge i k with h1 | h1
  ·have h2:=Nat.mul_le_mul_right (p.Cap.toNat+2) (show i+1≤k from h1)
   rw [Nat.succ_mul] at h2
   rw [List.getElem?_append_left (by omega)]
   exact zv1 p k i j h1 hj
  ·have:i=k:=by omega
   subst this
   rw [List.getElem?_append_right (by omega),hl,show i*(p.Cap.toNat+2)+j-i*(p.Cap.toNat+2)=j by omega]
theorem zyI {p:zb} (h:zB p) {w:Int} (hw:1≤w∧w≤p.Workers) {j:Nat} (hj:j<2):ld (yv p).M (zI p w+j)=1#64:=by
 have hd:=Yf h hw.1 hw.2
 have hc:=h.cap
 have hl:=Ur p p.Workers.toNat
 have hlt:(w-1).toNat<p.Workers.toNat:=by omega
 have e1:(zI p w+j).toNat=(w-1).toNat*(p.Cap.toNat+2)+j:=by
  obtain ⟨n,hn⟩: ∃n:Nat,w-1=(n:Int):=⟨(w-1).toNat,by omega⟩
  have e2:p.Cap+2=((p.Cap.toNat+2:Nat):Int):=by omega
  rw [hd.1,hn,e2,←Int.natCast_mul,Int.toNat_natCast]
  omega
 have h2:=Nat.mul_le_mul_right (p.Cap.toNat+2) (show (w-1).toNat+1≤p.Workers.toNat from hlt)
 rw [Nat.succ_mul] at h2
 rw [zEF h (by omega)]
 unfold ld
 rw [if_pos (by omega),e1,List.getD_eq_getElem?_getD,List.getElem?_append_left (by omega),zv1 p _ _ _ hlt (by omega)]
 unfold zgd
 match j,hj with
 | 0,_=>rfl
 | 1,_=>rfl
theorem zrq (n:Nat) (hn:1≤n): ∀(f:Nat) (l:List Int),l.length≤f→(vq n f l).flatten=l
 | 0,l,h=>by
  have:l=[]:=List.length_eq_zero_iff.1 (by omega)
  subst this;simp [vq]
 | f+1,[],_=>by simp [vq]
 | f+1,x::l,h=>by
  have:=zrq n hn f ((x::l).drop n) (by rw [List.length_drop];simp at h ⊢;omega)
  simp only [vq,List.flatten_cons] at this ⊢
  rw [this,List.take_append_drop]
theorem zCm {α:Type} (l:List (List α)):(List.range l.length).flatMap (fun i:Nat=>(l[i]?).getD [])=l.flatten:=by
 rw [List.flatMap_def]
 congr 1
 apply List.ext_getElem
 ·simp
 ·intro i h1 h2
  simp [List.getElem?_eq_getElem h2]
def gh0 (p:zb):Gh:=⟨(xl (zQ p)).take (yV p).length,(xl (zQ p)).drop (yV p).length,fun _=>[],fun _=>1,fun _=>0⟩
theorem zaP {α β:Type} {f:α→List β}: ∀ {l:List α},(∀x∈l,f x=[])→l.flatMap f=[]
 | [],_=>rfl
 | a::l,h=>by rw [List.flatMap_cons,h a (by simp),zaP (fun x hx=>h x (List.mem_cons_of_mem _ hx))];rfl
theorem zAa {p:zb} (h:zB p):yo p (yv p) (gh0 p)=Wf (Z8 p):=by
 have hb:=h.bin
 have hfl:=zol h
 have hbs:=zcA h
 have hmost:=h.most
 have hw:=h.wk
 have hm:=h.mt
 have e1:yo p (yv p) (gh0 p)=((xl (zQ p)).take (yV p).length).flatMap (yu (yv p)):=by
  show ((xl (zQ p)).take (yV p).length).flatMap (yu (yv p))++(List.range p.Workers.toNat).flatMap (fun _=>([]:List Int))=_
  rw [zaP (f:=fun _=>([]:List Int)) (fun _ _=>rfl),List.append_nil]
 have e2:(xl (zQ p)).take (yV p).length=(List.range (yV p).length).map (fun i:Nat=>(i:Int)+1):=by
  unfold xl
  rw [←List.map_take,List.take_range,Nat.min_eq_left (by omega)]
 rw [e1,e2,List.flatMap_map]
 have e3:(List.range (yV p).length).flatMap (fun i:Nat=>yu (yv p) ((i:Int)+1))=(List.range (yV p).length).flatMap (fun i:Nat=>((yV p)[i]?).getD []):=by
  refine xx (fun i hi=> ?_)
  have hi:=List.mem_range.1 hi
  unfold yu
  show (([[]]++yV p++List.replicate (zQ p-(yV p).length) [])[((i:Int)+1).toNat]?).getD []=_
  rw [show ((i:Int)+1).toNat=i+1 by omega,List.append_assoc]
  show ((yV p++List.replicate (zQ p-(yV p).length) [])[i]?).getD []=_
  rw [List.getElem?_append_left hi]
 rw [e3,zCm]
 exact zrq _ (by omega) _ _ (Nat.le_refl _)
theorem zzo (s:BitVec 64):(Wf s).Nodup:=by
 unfold Wf
 rw [List.Nodup,List.pairwise_map]
 exact (List.nodup_range.filter _).imp (fun h e=>h (by omega))
theorem zAB {s:BitVec 64} (h:s&&& ~~~63#64=0#64) {j:Nat} (hs:s.getLsbD j=true):j<6:=by
 have hj:j<64:=BitVec.lt_of_getLsbD hs
 have:=congrArg (fun x=>x.getLsbD j) h
 simp only [BitVec.getLsbD_and,BitVec.getLsbD_not,hs,hj,decide_true,Bool.true_and,BitVec.getLsbD_zero] at this
 have h63:(63#64).getLsbD j=decide (j<6):=by
  have: ∀j:Fin 64,(63#64).getLsbD j.1=decide (j.1<6):=by decide
  exact this ⟨j,hj⟩
 rw [h63] at this
 by_cases e:j<6
 ·exact e
 ·rw [decide_eq_false e] at this;cases this
theorem zCd {s:BitVec 64} (h:s&&& ~~~63#64=0#64) (o:Int):o∈Wf s↔z5 s o=true:=by
 unfold Wf
 rw [xK,List.mem_map]
 constructor
 ·rintro ⟨i,hi,rfl⟩
  obtain ⟨h1,h2⟩:=List.mem_filter.1 hi
  have:=List.mem_range.1 h1
  exact ⟨by omega,by omega,by rw [show ((i:Int)+1-1).toNat=i by omega];exact h2⟩
 ·rintro ⟨h1,h2,h3⟩
  exact ⟨(o-1).toNat,List.mem_filter.2 ⟨List.mem_range.2 (zAB h h3),h3⟩,by omega⟩
theorem zFg {p:zb} (h:zB p):WG p (zQ p+1) 0 (yv p) (gh0 p):=by
 have hE:=zB4 h
 obtain ⟨L,v1,v2⟩:=zBU h
 have hc:=h.cap
 have hws: ∀x∈(yv p).Ws,∃i:Nat,x=uu p i:=fun x hx=>by
  obtain ⟨i,_,rfl⟩:=List.mem_map.1 (show x∈(List.range p.Workers.toNat).map (uu p) from hx)
  exact ⟨i,rfl⟩
 have hb: ∀i:Nat,uu p i=V5 p ((i:Int)+1) (uu p i):=fun i=>rfl
 have own:(yv p).Ws.flatMap wg=[]:=zaP (fun x hx=>by
  obtain ⟨i,rfl⟩:=hws x hx
  exact vX (by show (0:Int)≠3;decide) (by show (0:Int)≠4;decide) (by show (0:Int)≠6;decide))
 have hold:(yv p).Ws.flatMap (zJ (yv p))=[]:=zaP (fun x hx=>by
  obtain ⟨i,rfl⟩:=hws x hx
  unfold zJ
  rw [hb i,zia];rfl)
 refine ⟨hE,⟨hE.S,by rw [own];exact L,fun w h1 h2=> ?_,?_,fun w _ _=>by show 1+0≤0+1000;decide⟩,fun i x hx=> ?_,?_⟩
 ·have c0:=zyI h ⟨h1,h2⟩ (j:=0) (by decide)
  have c1:=zyI h ⟨h1,h2⟩ (j:=1) (by decide)
  rw [show zI p w+((0:Nat):Int)=zI p w by omega] at c0
  exact ⟨c0,c1,by show (0:Nat)≤1;decide,by show (1:Nat)≤1;decide,Nat.zero_le _,by show 1+0<4294967296;decide,fun i hi=>absurd hi (Nat.not_lt_zero _)⟩
 ·rw [v1,v2];exact ⟨Nat.le_refl _,Nat.le_refl _⟩
 ·have hx:((List.range p.Workers.toNat).map (uu p))[i]? =some x:=hx
  rw [List.getElem?_map] at hx
  cases hr:(List.range p.Workers.toNat)[i]? with
  | none=>rw [hr] at hx;cases hx
  | some j =>
   rw [hr] at hx
   injection hx with hx
   obtain ⟨h1,h2⟩:=List.getElem?_eq_some_iff.1 hr
   rw [List.getElem_range] at h2
   subst h2
   rw [←hx,hb i]
   exact WX.begin rfl rfl
 ·have hs:=zfY h
  unfold zpg
  rw [hold,List.append_nil,zAa h]
  refine ⟨fun o ho=>absurd ho (WN o),zzo _,fun o=> ?_⟩
  rw [zCd hs,WV]
  exact ⟨fun e=>⟨e,WN o⟩,fun e=>e.1⟩
theorem zvY (n:Nat) (hn:1≤n): ∀(f:Nat) (l c:List Int),c∈vq n f l→c≠[]
 | 0,l,c,h=>by simp [vq] at h
 | f+1,[],c,h=>by simp [vq] at h
 | f+1,x::l,c,h=>by
  simp only [vq,List.mem_cons] at h
  rcases h with h | h
  ·rw [h]
   match n,hn with
   | m+1,_=>exact List.cons_ne_nil _ _
  ·exact zvY n hn f _ c h
theorem zFj {p:zb} (h:zB p): ∀y∈(gh0 p).F,yu (yv p) y≠[]:=by
 intro y hy
 have hb:=h.bin
 have hfl:=zol h
 have hbs:=zcA h
 have hmost:=h.most
 have hw:=h.wk
 have hm:=h.mt
 have hy:y∈(xl (zQ p)).take (yV p).length:=hy
 have e2:(xl (zQ p)).take (yV p).length=(List.range (yV p).length).map (fun i:Nat=>(i:Int)+1):=by
  unfold xl
  rw [←List.map_take,List.take_range,Nat.min_eq_left (by omega)]
 rw [e2] at hy
 obtain ⟨i,hi,rfl⟩:=List.mem_map.1 hy
 have hi:=List.mem_range.1 hi
 unfold yu
 show (([[]]++yV p++List.replicate (zQ p-(yV p).length) [])[((i:Int)+1).toNat]?).getD []≠[]
 rw [show ((i:Int)+1).toNat=i+1 by omega,List.append_assoc]
 show ((yV p++List.replicate (zQ p-(yV p).length) [])[i]?).getD []≠[]
 rw [List.getElem?_append_left hi,List.getElem?_eq_getElem hi]
 exact zvY _ (by omega) _ _ _ (List.getElem_mem hi)
end
end Go.Pe.G
namespace Go.Pe.G
open Go.Pe
noncomputable section
def noD (base cap:Int):zd:=⟨0,0,base,cap,0#64,0#64,0,0⟩
def ziY (o:zd):Prop:=o.Kind=2∧o.Out=0∧(o.PC=2∨o.PC=4∨o.PC=5∨(o.PC=3∧o.T=o.B-1#64))
instance (o:zd):Decidable (ziY o):=by unfold ziY;infer_instance
def ze6 (m:List (BitVec 64)) (base:Int) (o:zd):BitVec 64:=if ziY o then ld m (wc (base+1))+1#64 else ld m (wc (base+1))
def Yq (m:List (BitVec 64)) (base cap:Int) (top:BitVec 64) (n:Nat):List Int:=(List.range n).map (fun j:Nat=>(ld m (YC (noD base cap) (top+BitVec.ofNat 64 j))).toInt)
def XT (m:List (BitVec 64)) (base cap:Int) (o:zd):List Int :=
 if ¬0<(ze6 m base o-ld m base).toInt∨(min (v9 (noD base cap)).toNat 64)<(ze6 m base o-ld m base).toNat then []
 else Yq m base cap (ld m base) (ze6 m base o-ld m base).toNat
theorem zEa {p:zb} (h:zB p) (b:Int):(v9 (noD b p.Cap)).toNat=p.Cap.toNat:=by
 have hc:=h.cap
 have hx:p.Cap=1∨p.Cap=2∨p.Cap=3:=by omega
 unfold v9 noD
 rcases hx with e | e | e<;>simp only [e]<;>decide
theorem zzZ {a b:Nat} (h:b≤a) (h2:a<4294967296):BitVec.ofNat 64 a-BitVec.ofNat 64 b=BitVec.ofNat 64 (a-b):=zgY h (by omega)
theorem zxU {p:zb} (h:zB p) {m:List (BitVec 64)} {w:Int} {t c:Nat} {l:List Int} {o:zd} (hw:1≤w∧w≤p.Workers) (D:DQ p m w t l c) (he:ze6 m (zI p w) o=BitVec.ofNat 64 (t+l.length)):XT m (zI p w) p.Cap o=l:=by
 have hs:=D.small
 have hcap:=D.cap
 have hc:=h.cap
 have ed:ze6 m (zI p w) o-ld m (zI p w)=BitVec.ofNat 64 l.length:=by
  rw [he,D.top,zzZ (by omega) hs];congr 1;omega
 unfold XT
 rw [ed,Zy (by omega),zEa h]
 by_cases hl:l=[]
 ·subst hl
  rw [if_pos (.inl (by decide))]
 ·have hpos:0<l.length:=List.length_pos_iff.2 hl
  have:0<(BitVec.ofNat 64 l.length).toInt:=by
   have:=(zgL (a:=t+l.length) (b:=t) hs (by omega)).2 (by omega)
   rw [zzZ (by omega) hs] at this
   rwa [show t+l.length-t=l.length by omega] at this
  rw [if_neg (by omega)]
  unfold Yq
  apply List.ext_getElem
  ·simp
  ·intro i h1 h2
   rw [List.getElem_map,List.getElem_range,D.top,zcT (by omega),zgV h hw rfl rfl (by omega),D.cell i h2]
theorem zBN {p:zb} (h:zB p) {m:List (BitVec 64)} {w:Int} {t c:Nat} {o:zd} (D:DQ p m w t [] c) (he:ze6 m (zI p w) o=BitVec.ofNat 64 (t-1)):XT m (zI p w) p.Cap o=[]:=by
 have hs:=D.small
 unfold XT
 refine if_pos (.inl (fun e=> ?_))
 rw [he,D.top] at e
 have:=(zgL (by have:t+0<4294967296:=hs;omega) (by have:t+0<4294967296:=hs;omega)).1 e
 omega
theorem zxJ {p:zb} (h:zB p) {w:Int} (hw:1≤w∧w≤p.Workers):wc (zI p w+1)=zI p w+1:=by
 have hd:=Yf h hw.1 hw.2
 have hf:=Zq h
 have hc:=h.cap
 exact xu (by omega) (by omega)
theorem zny {p:zb} (h:zB p) {m:List (BitVec 64)} {w:Int} {t:Nat} {l:List Int} {o:zd} (hw:1≤w∧w≤p.Workers) (D:DQ p m w t l 0) (ho: ¬ziY o):XT m (zI p w) p.Cap o=l:=by
 refine zxU h hw D ?_
 unfold ze6
 rw [if_neg ho,zxJ h hw,D.bot];rfl
theorem zB6 {p:zb} (h:zB p) {m:List (BitVec 64)} {w:Int} {t c:Nat} {l:List Int} {o:zd} (hw:1≤w∧w≤p.Workers) (D:DQ p m w t l c) (K:PK p m w t l c o):XT m (zI p w) p.Cap o=l:=by
 have hs:=D.small
 have ht:=D.t1
 have hpc:=K.pc
 by_cases h1:ziY o
 ·have hc:c=1:=by
   rcases h1.2.2 with e | e | e | ⟨e,e2⟩
   ·exact K.c1 (.inl e)
   ·exact K.c1 (.inr (by omega))
   ·exact K.c1 (.inr (by omega))
   ·exact K.c3 e e2
  subst hc
  refine zxU h hw D ?_
  unfold ze6
  rw [if_pos h1,zxJ h hw,D.bot,show (1#64:BitVec 64)=BitVec.ofNat 64 1 from rfl,zcT (by omega)]
  congr 1;omega
 ·have hn: ¬(o.PC=2∨o.PC=4∨o.PC=5∨(o.PC=3∧o.T=o.B-1#64)):=fun e=>h1 ⟨K.kind,K.out,e⟩
  by_cases h6:o.PC=6
  ·have hl:=K.e5 (by omega)
   have hc:=K.c1 (.inr (by omega))
   subst hl;subst hc
   refine zBN h D ?_
   unfold ze6
   rw [if_neg h1,zxJ h hw,D.bot];rfl
  ·have hc:c=0:=by
    by_cases h3:o.PC=3
    ·exact (K.n3 h3 (fun e=>hn (.inr (.inr (.inr ⟨h3,e⟩))))).1
    ·exact K.c0 (by omega)
   subst hc
   exact zny h hw D h1
end
end Go.Pe.G
namespace Go.Pe.G
open Go.Pe
noncomputable section
theorem zDj: ∀(t:Fin 512) (k:Fin 9),BitVec.ofNat 64 t.1|||bit ((k.1:Int)+1)=BitVec.ofNat 64 t.1∨cnt (BitVec.ofNat 64 t.1|||bit ((k.1:Int)+1))=cnt (BitVec.ofNat 64 t.1)+1:=by decide +kernel
theorem zBI {s:BitVec 64} (h: ∀o,z5 s o=true→o≤9): ∃t:Fin 512,s=BitVec.ofNat 64 t.1:=by
 have h2:s=s&&&511#64:=by
  apply BitVec.eq_of_getLsbD_eq
  intro j hj
  rw [BitVec.getLsbD_and]
  have h63:(511#64).getLsbD j=decide (j<9):=by
   have: ∀j:Fin 64,(511#64).getLsbD j.1=decide (j.1<9):=by decide
   exact this ⟨j,hj⟩
  rw [h63]
  cases hs:s.getLsbD j with
  | false=>rfl
  | true =>
   have:=h ((j:Int)+1) ((xK _ _).2 ⟨by omega,by omega,by rw [show ((j:Int)+1-1).toNat=j by omega];exact hs⟩)
   rw [decide_eq_true (by omega:j<9)];rfl
 have h3:s.toNat<512:=by
  rw [h2,BitVec.toNat_and]
  exact Nat.lt_of_le_of_lt Nat.and_le_right (by decide)
 exact ⟨⟨s.toNat,h3⟩,by rw [BitVec.ofNat_toNat,BitVec.setWidth_eq]⟩
theorem zFb {s:BitVec 64} (h: ∀o,z5 s o=true→o≤9) {o:Int} (ho:1≤o∧o≤9) (hn: ¬z5 s o=true):cnt (s|||bit o)=cnt s+1:=by
 obtain ⟨t,rfl⟩:=zBI h
 have:=zDj t ⟨(o-1).toNat,by omega⟩
 rw [show (((o-1).toNat:Nat):Int)+1=o by omega] at this
 rcases this with e | e
 ·exact absurd e ((zbk ⟨ho.1,by omega⟩).2 hn)
 ·exact e
theorem zyf: ∀(l:List Int) (s:BitVec 64) (q:Int),(∀o∈l,1≤o∧o≤64)→(z5 (l.foldl (fun s o=>s|||bit o) s) q=true↔z5 s q=true∨q∈l)
 | [],s,q,_=>by simp
 | a::l,s,q,h=>by
  rw [List.foldl_cons,zyf l _ q (fun o ho=>h o (List.mem_cons_of_mem _ ho)),wb _ (h a (by simp)),List.mem_cons,or_assoc]
theorem zxG: ∀(l:List Int) (s:BitVec 64),(∀o∈l,1≤o∧o≤9)→(∀o,z5 s o=true→o≤9)→l.Nodup→(∀o∈l,¬z5 s o=true)→cnt (l.foldl (fun s o=>s|||bit o) s)=cnt s+(l.length:Int)
 | [],s,_,_,_,_=>by simp
 | a::l,s,h,hs,hd,hn=>by
  have ha:=h a (by simp)
  have hd:=List.nodup_cons.1 hd
  have ha64:1≤a∧a≤64:=by omega
  rw [List.foldl_cons,zxG l _ (fun o ho=>h o (List.mem_cons_of_mem _ ho)) (fun o ho=> ?_) hd.2 (fun o ho e=> ?_),zFb hs ha (hn a (by simp)),List.length_cons]
  ·omega
  ·rcases (wb _ ha64 o).1 ho with e | e
   ·exact hs o e
   ·omega
  ·rcases (wb _ ha64 o).1 e with e | e
   ·exact hn o (List.mem_cons_of_mem _ ho) e
   ·exact hd.1 (e▸ho)
theorem zCT:cnt 0#64=0:=by decide +kernel
theorem zEu {l:List Int} (h: ∀o∈l,1≤o∧o≤9) (hd:l.Nodup):cnt (zao l)=(l.length:Int)∧∀q,z5 (zao l) q=true↔q∈l:=by
 refine ⟨?_,fun q=> ?_⟩
 ·unfold zao
  rw [zxG l _ h (fun o e=>absurd e (WN o)) hd (fun o _=>WN o),zCT,Int.zero_add]
 ·unfold zao
  rw [zyf l _ q (fun o ho=>by have:=h o ho;omega)]
  exact ⟨fun e=>e.resolve_left (WN q),.inr⟩
theorem zr1 (s:BitVec 64) {q:Int} (h:1≤q∧q≤64):z5 (~~~s) q=true↔¬z5 s q=true:=by
 rw [xK,xK,BitVec.getLsbD_not]
 simp only [show (q-1).toNat<64 by omega,decide_true,Bool.true_and,Bool.not_eq_true']
 constructor
 ·rintro ⟨_,_,e⟩ ⟨_,_,e2⟩;rw [e] at e2;cases e2
 ·intro e
  refine ⟨h.1,h.2,?_⟩
  cases hs:s.getLsbD (q-1).toNat with
  | false=>rfl
  | true=>exact absurd ⟨h.1,h.2,hs⟩ e
end
end Go.Pe.G
namespace Go.Pe.G
open Go.Pe
noncomputable section
structure zCW (s:za):Prop where
 mks: ∀o,z5 s.T.Marks o=true→o≤9
 ob: ∀(i:Nat) x,s.Ws[i]? =some x→x.PC=6→x.G.Obj≤9
theorem HOk.get9 {p:zb} (hp:zB p) {h:zt} (H:HOk p h) (o i:Int):xA h o i≤9:=by
 have h1:=H.n
 have h2:p.Most≤9:=by have:=hp.most;have:=hp.n;omega
 unfold xA
 split
 ·unfold zV
  rw [List.getD_eq_getElem?_getD,List.getD_eq_getElem?_getD]
  cases hx:h.Objs[(o-1).toNat]? with
  | none=>show (([]:List Int)[i.toNat]?).getD 0≤9;simp
  | some l =>
   show (l[i.toNat]?).getD 0≤9
   cases hv:l[i.toNat]? with
   | none=>show (0:Int)≤9;decide
   | some v =>
    have:=(H.objs l (List.mem_of_getElem? hx)).2 v (List.mem_of_getElem? hv)
    show v≤9;omega
 ·decide
theorem zCW.step {p:zb} (hp:zB p) {nb k:Nat} {s:za} {gh:Gh} (L:zCW s) (G:WG p nb k s gh) {w:Int} (hw:1≤w∧w≤p.Workers) (hd:s.Done=false) (T:zD1 s (yy s w) w):zCW (yy s w):=by
 have hwl:=G.E.wl
 refine ⟨fun o ho=> ?_,fun i y hy h6=> ?_⟩
 ·rcases T with e | ⟨x,q,hx,h6,rfl,hr,hn,e⟩ | ⟨x,hx,h8,h1,e⟩
  ·rw [e] at ho;exact L.mks o ho
  ·rw [e] at ho
   rcases (wb _ hr o).1 ho with e | e
   ·exact L.mks o e
   ·rw [e];exact L.ob _ x hx h6
  ·rw [e] at ho;exact L.mks o ho
 ·have e0: ¬(s.Done=true∨w<1∨(s.Ws.length:Int)<w):=by rw [hd];rintro (e | e | e)<;>first | cases e | omega
  have hi:(w-1).toNat<s.Ws.length:=by omega
  have hx:=List.getElem?_eq_getElem hi
  generalize s.Ws[(w-1).toNat]=x at hx
  unfold yy at hy
  rw [if_neg e0,hx] at hy
  have hy:(s.Ws.set (w-1).toNat (zp s w x).2)[i]? =some y:=hy
  by_cases hj:i=(w-1).toNat
  ·subst hj
   rw [List.getElem?_set_self hi] at hy
   injection hy with hy
   subst hy
   rcases zyh s w x h6 with ⟨a,b⟩ | ⟨a,b⟩
   ·rw [b];exact L.ob _ x hx a
   ·rw [b];exact G.E.H.get9 hp _ _
  ·rw [List.getElem?_set_ne (fun e=>hj e.symm)] at hy
   exact L.ob i y hy h6
theorem zwo {α β:Type} {f g:α→List β}: ∀(l:List α),List.Perm (l.flatMap (fun x=>f x++g x)) (l.flatMap f++l.flatMap g)
 | []=>List.Perm.refl _
 | a::l=>by
  rw [List.flatMap_cons,List.flatMap_cons,List.flatMap_cons]
  refine (List.Perm.append_left _ (zwo l)).trans ?_
  simp only [List.append_assoc]
  exact List.Perm.append_left _ (List.perm_append_comm_assoc _ _ _)
theorem zt1 {α β:Type} {f:α→List β} (l:List α):(List.range l.length).flatMap (fun i:Nat=>(l[i]?).elim [] f)=l.flatMap f:=by
 rw [List.flatMap_def,List.flatMap_def]
 congr 1
 apply List.ext_getElem
 ·simp
 ·intro i h1 h2
  have hi:i<l.length:=by simpa using h2
  simp [List.getElem?_eq_getElem hi]
end
end Go.Pe.G
namespace Go.Pe.G
open Go.Pe
noncomputable section
theorem zAf {m:List (BitVec 64)} {base cap:Int} {top:BitVec 64} (hc:cap<1000) (e:BitVec 64) (h:(e-top).toNat≤64) :
  zO z9 (m,e,top,zd.mk 0 0 base cap 0#64 0#64 0 0,([]:List Int),())=some (.brk (Yq m base cap top (e-top).toNat,())):=by
 have he:e=top+BitVec.ofNat 64 (e-top).toNat:=by
  rw [BitVec.ofNat_toNat,BitVec.setWidth_eq,BitVec.add_comm,BitVec.sub_add_cancel]
 generalize (e-top).toNat=n at he h
 subst he
 have:=zEc (f:=z9) (fun (i:Int) (_:Unit)=>(m,top+BitVec.ofNat 64 n,top+BitVec.ofNat 64 i.toNat,zd.mk 0 0 base cap 0#64 0#64 0 0,Yq m base cap top i.toNat,())) (fun _=>(Yq m base cap top n,())) n (by omega) (fun _ _=>()) (fun _=>True) (fun _ _ _=>trivial)
  (fun i _ hi _=>by
   have hne: ¬(top+BitVec.ofNat 64 i=top+BitVec.ofNat 64 n):=fun e=>by
    have e:=congrArg (fun x=>x-top) e
    rw [BitVec.add_comm top,BitVec.add_comm top,BitVec.add_sub_cancel,BitVec.add_sub_cancel] at e
    have:=zvF (by omega) (by omega) e
    omega
   have e2:top+BitVec.ofNat 64 i+1#64=top+BitVec.ofNat 64 (i+1):=by
    rw [BitVec.add_assoc,show (1#64:BitVec 64)=BitVec.ofNat 64 1 from rfl,zcT (by omega)]
   have e3:Yq m base cap top (i+1)=Yq m base cap top i++[(ld m (YC (zd.mk 0 0 base cap 0#64 0#64 0 0) (top+BitVec.ofNat 64 i))).toInt]:=by
    unfold Yq noD
    rw [List.range_succ,List.map_append];rfl
   have el:(Yq m base cap top i).length=i:=by unfold Yq;simp
   show z9 (m,top+BitVec.ofNat 64 n,top+BitVec.ofNat 64 i,zd.mk 0 0 base cap 0#64 0#64 0 0,Yq m base cap top i,())=some (.again (m,top+BitVec.ofNat 64 n,top+BitVec.ofNat 64 (i+1),zd.mk 0 0 base cap 0#64 0#64 0 0,Yq m base cap top (i+1),()))
   rw [zdT,yt,if_neg hne,zfT (show (zd.mk 0 0 base cap 0#64 0#64 0 0).Cap<1000 from hc),Option.bind_some,Yp,Option.bind_some,yp (by rw [List.length_append,el];simp;omega),Option.bind_some,e2,e3])
  (fun _ _=>by
   show z9 (m,top+BitVec.ofNat 64 n,top+BitVec.ofNat 64 n,zd.mk 0 0 base cap 0#64 0#64 0 0,Yq m base cap top n,())=_
   rw [zdT,yt,if_pos rfl]) (s:=()) trivial
 have e0:top+BitVec.ofNat 64 (0:Int).toNat=top:=by show top+0#64=top;rw [BitVec.add_zero]
 simp only [e0] at this
 exact this
theorem zEM (S d:BitVec 64):((bif decide (64#64<S) then 64#64 else S)<d)↔min S.toNat 64<d.toNat:=by
 rw [zj]
 by_cases h:64#64<S
 ·rw [if_pos h]
  have h':64<S.toNat:=h
  show 64<d.toNat↔_
  rw [Nat.min_eq_right (by omega)]
 ·rw [if_neg h]
  have h': ¬64<S.toNat:=h
  show S.toNat<d.toNat↔_
  rw [Nat.min_eq_left (by omega)]
theorem zzf {m:List (BitVec 64)} {base cap:Int} (hc:cap<1000) (o:zd):xS m base cap o=some (XT m base cap o,()):=by
 have hl:=fun e h=>zAf (m:=m) (base:=base) (cap:=cap) (top:=ld m base) hc e h
 have hlim:=fun d=>zEM (v9 (noD base cap)) d
 unfold noD at hlim
 have done: ∀e:BitVec 64,∀ {b:Option (List Int×Unit)},(¬0<(e-ld m base).toInt→b=some ([],()))→(0<(e-ld m base).toInt→(min (v9 (noD base cap)).toNat 64<(e-ld m base).toNat)→b=some ([],()))→(0<(e-ld m base).toInt→¬(min (v9 (noD base cap)).toNat 64<(e-ld m base).toNat)→b=some (Yq m base cap (ld m base) (e-ld m base).toNat,())) →
   b=some (if ¬0<(e-ld m base).toInt∨(min (v9 (noD base cap)).toNat 64)<(e-ld m base).toNat then [] else Yq m base cap (ld m base) (e-ld m base).toNat,()):=by
  intro e b h1 h2 h3
  by_cases a:0<(e-ld m base).toInt
  ·by_cases c:min (v9 (noD base cap)).toNat 64<(e-ld m base).toNat
   ·rw [if_pos (.inr c)];exact h2 a c
   ·rw [if_neg (by rintro (x | x);exact x a;exact c x)];exact h3 a c
  ·rw [if_pos (.inl a)];exact h1 a
 rw [zsz]
 simp only [u0,xj,xh,Option.bind_some,Yp,zcC,zoc]
 unfold XT
 by_cases h:ziY o
 ·have he:ze6 m base o=ld m (wc (base+1))+1#64:=by unfold ze6;rw [if_pos h]
  rw [he]
  obtain ⟨k,u,pc⟩:=h
  rcases pc with p | p | p | ⟨p,t⟩
  all_goals
   first | simp only [k,u,p,t,Int.reduceEq,decide_true,decide_false,cond_true,cond_false] | simp only [k,u,p,Int.reduceEq,decide_true,decide_false,cond_true,cond_false]
   generalize ld m (wc (base+1))+1#64=e
   refine done e (fun a=> ?_) (fun a c=> ?_) (fun a c=> ?_)
   ·simp only [decide_eq_false a,Bool.not_false,cond_true]
   ·simp only [decide_eq_true a,Bool.not_true,cond_false]
    rw [zj,if_pos ((hlim (e-ld m base)).2 c)]
   ·simp only [decide_eq_true a,Bool.not_true,cond_false]
    rw [zj,if_neg (fun x=>c ((hlim (e-ld m base)).1 x)),hl e (by omega)]
    rfl
 ·have he:ze6 m base o=ld m (wc (base+1)):=by unfold ze6;rw [if_neg h]
  rw [he]
  have fin: ∀b:Option (List Int×Unit),(b=(bif !decide (0<(ld m (wc (base+1))-ld m base).toInt) then some ([],()) else bif decide ((bif decide (64#64<v9 (noD base cap)) then 64#64 else v9 (noD base cap))<(ld m (wc (base+1))-ld m base)) then some ([],()) else (zO z9 (m,ld m (wc (base+1)),ld m base,zd.mk 0 0 base cap 0#64 0#64 0 0,([]:List Int),())).bind (fun st=>match st with | .again _=>none | .brk y=>some (y.1,()) | .ret y=>none)))→b=some (if ¬0<(ld m (wc (base+1))-ld m base).toInt∨(min (v9 (noD base cap)).toNat 64)<(ld m (wc (base+1))-ld m base).toNat then [] else Yq m base cap (ld m base) (ld m (wc (base+1))-ld m base).toNat,()):=by
   intro b hb
   rw [hb]
   generalize ld m (wc (base+1))=e
   refine done e (fun a=> ?_) (fun a c=> ?_) (fun a c=> ?_)
   ·simp only [decide_eq_false a,Bool.not_false,cond_true]
   ·simp only [decide_eq_true a,Bool.not_true,cond_false]
    rw [zj]
    exact if_pos ((hlim (e-ld m base)).2 c)
   ·simp only [decide_eq_true a,Bool.not_true,cond_false]
    rw [zj]
    refine (if_neg (fun x=>c ((hlim (e-ld m base)).1 x))).trans ?_
    rw [hl e (by omega)]
    rfl
  refine fin _ ?_
  by_cases k:o.Kind=2
  ·by_cases u:o.Out=0
   ·have pc: ¬(o.PC=2∨o.PC=4∨o.PC=5∨(o.PC=3∧o.T=o.B-1#64)):=fun e=>h ⟨k,u,e⟩
    have p2: ¬o.PC=2:=fun e=>pc (.inl e)
    have p4: ¬o.PC=4:=fun e=>pc (.inr (.inl e))
    have p5: ¬o.PC=5:=fun e=>pc (.inr (.inr (.inl e)))
    by_cases p3:o.PC=3
    ·have t: ¬o.T=o.B-1#64:=fun e=>pc (.inr (.inr (.inr ⟨p3,e⟩)))
     simp only [decide_eq_true k,decide_eq_true u,decide_eq_false p2,decide_eq_false p4,decide_eq_false p5,decide_eq_true p3,decide_eq_false t,cond_true,cond_false]
     rfl
    ·simp only [decide_eq_true k,decide_eq_true u,decide_eq_false p2,decide_eq_false p4,decide_eq_false p5,decide_eq_false p3,cond_true,cond_false]
     rfl
   ·simp only [decide_eq_true k,decide_eq_false u,cond_true,cond_false]
    rfl
  ·simp only [decide_eq_false k,cond_true,cond_false]
   rfl
theorem zBm (m:List (BitVec 64)) (base cap:Int) (o:zd):(XT m base cap o).length≤64:=by
 unfold XT
 split
 ·simp
 ·rename_i h
  unfold Yq
  rw [List.length_map,List.length_range]
  omega
end
end Go.Pe.G
namespace Go.Pe.G
open Go.Pe
noncomputable section
def uh (x:zc):List Int:=if x.PC=33∨x.PC=34 then [x.Bin] else if x.PC=3∨x.PC=37 then x8 x.G else []
def zbA (s:za) (x:zc):List Int:=if x.PC=33 then yu s x.Bin else if x.PC=36∨x.PC=38 then [x.Obj] else if x.PC=37 then x.Obj::yh x.G else if x.PC=3 then yh x.G else []
def zW (s:za) (x:zc):List Int:=x.Batch++zbA s x
structure MX (p:zb) (s:za) (gh:Gh) (x:zc):Prop where
 bt:x.PC≤33→x.Batch=[]
 bf: ∀v∈x.Buf,1≤v∧v≤64
 ol:(x.PC=21→0≤x.Old∧x.Old≤64)∧(x.PC=22∨((x.PC=1∨x.PC=3)∧x.Ret=22)→1≤x.Old∧x.Old≤64)
 p3:x.PC=3→GX p s gh x.G∧x.G.Mode=2∧x.G.Out=0
 p32:x.PC=32→x.C.Out=0∧(0≤x.C.PC∧x.C.PC≤2)∧CK p s.M x.C
 p34:x.PC=34→x.C.Out=0∧(0≤x.C.PC∧x.C.PC≤2)∧x.C.X=x.Bin∧CK p s.M x.C
 p37:x.PC=37→GX p s gh x.G∧x.G.Mode=3∧x.G.Out=0
theorem MX.plain {p:zb} {s:za} {gh:Gh} {x:zc} (h:x.PC≠3∧x.PC≠32∧x.PC≠34∧x.PC≠37) (bt:x.PC≤33→x.Batch=[]) (bf: ∀v∈x.Buf,1≤v∧v≤64)
  (ol:(x.PC=21→0≤x.Old∧x.Old≤64)∧(x.PC=22∨((x.PC=1∨x.PC=3)∧x.Ret=22)→1≤x.Old∧x.Old≤64)):MX p s gh x :=
 ⟨bt,bf,ol,fun e=>by omega,fun e=>by omega,fun e=>by omega,fun e=>by omega⟩
theorem vz {x:zc} (h:x.PC≠3∧x.PC≠33∧x.PC≠34∧x.PC≠37):uh x=[]:=by unfold uh;rw [if_neg (by omega),if_neg (by omega)]
theorem zcy {x:zc} (h:x.PC=33∨x.PC=34):uh x=[x.Bin]:=by unfold uh;rw [if_pos h]
theorem zgn {x:zc} (h:x.PC=3∨x.PC=37):uh x=x8 x.G:=by unfold uh;rw [if_neg (by omega),if_pos h]
theorem ux {s:za} {x:zc} (h:x.PC≠3∧x.PC≠33∧x.PC≠36∧x.PC≠37∧x.PC≠38):zbA s x=[]:=by unfold zbA;rw [if_neg (by omega),if_neg (by omega),if_neg (by omega),if_neg (by omega)]
theorem zqA {s:za} {x:zc} (h:x.PC=33):zbA s x=yu s x.Bin:=by unfold zbA;rw [if_pos h]
theorem zb1 {s:za} {x:zc} (h:x.PC=36∨x.PC=38):zbA s x=[x.Obj]:=by unfold zbA;rw [if_neg (by omega),if_pos h]
theorem zuH {s:za} {x:zc} (h:x.PC=37):zbA s x=x.Obj::yh x.G:=by unfold zbA;rw [if_neg (by omega),if_neg (by omega),if_pos h]
theorem zpF {s:za} {x:zc} (h:x.PC=3):zbA s x=yh x.G:=by unfold zbA;rw [if_neg (by omega),if_neg (by omega),if_neg (by omega),if_pos h]
theorem MX.other {p:zb} (hp:zB p) {nb k:Nat} {s s':za} {gh gh':Gh} {X R:List Int} {O:Int→Prop} {m:Int} {x:zc} (Y:SX p nb s gh (X++R) k) (Fx:FX p nb X O s s' gh gh') (K:MX p s gh x) (W:XOk p nb m x)
  (hR: ∀b∈uh x,b∈R):MX p s' gh' x∧zW s' x=zW s x:=by
 have hsub: ∀b∈X,b∈X++R:=fun b hb=>List.mem_append_left _ hb
 have hnd:=(List.nodup_append.1 Y.L.nodup).2.1
 have hnot: ∀b,b∈uh x→b∉X:=fun b hb hg=>(List.nodup_append.1 hnd).2.2 b hg b (hR b hb) rfl
 refine ⟨⟨K.bt,K.bf,K.ol,fun e=> ?_,fun e=> ?_,fun e=> ?_,fun e=> ?_⟩,?_⟩
 ·obtain ⟨a,b,c⟩:=K.p3 e
  obtain ⟨M,_,_⟩:=W.g (.inl e)
  exact ⟨a.other hp Y Fx M (fun y hy=>hR y (by rw [zgn (.inl e)];exact hy)) (fun e2=>by omega),b,c⟩
 ·obtain ⟨a,b,c⟩:=K.p32 e
  have C:=W.c32 e
  exact ⟨a,b,c.mv Y.L Fx.mv hsub (.inl C.h) (fun h _=>C.v h) (fun e2=>by have:=C.k;omega)⟩
 ·obtain ⟨a,b,c,d⟩:=K.p34 e
  have C:=W.c34 e
  have hno:=hnot x.Bin (by rw [zcy (.inr e)];simp)
  exact ⟨a,b,c,d.mv Y.L Fx.mv hsub (.inr C.h) (fun _ e2=>by have:=C.k;omega) (fun _=>⟨C.x.1,C.x.2,by rw [c];exact hno⟩)⟩
 ·obtain ⟨a,b,c⟩:=K.p37 e
  obtain ⟨M,_,_⟩:=W.g (.inr e)
  exact ⟨a.other hp Y Fx M (fun y hy=>hR y (by rw [zgn (.inr e)];exact hy)) (fun e2=>by omega),b,c⟩
 ·unfold zW
  congr 1
  by_cases e3:x.PC=33
  ·rw [zqA e3,zqA e3]
   have hb:=W.b33 e3
   have hno:=hnot x.Bin (by rw [zcy (.inl e3)];simp)
   unfold yu
   rw [Fx.bn x.Bin hb.1 hno]
  ·unfold zbA
   rw [if_neg e3,if_neg e3]
def zeM (p:zb) (nb k:Nat) (R:List Int) (gh:Gh) (s:za) (x:zc) (s':za) (x':zc):Prop :=
 ∃gh',SX p nb s' gh' (uh x'++R) (k+1)∧MX p s' gh' x'∧FX p nb (uh x) (fun _=>False) s s' gh gh' ∧
  ∃N B,List.Perm (yo p s' gh'++zW s' x'++B) (N++(yo p s gh++zW s x)) ∧
   ((N=[]∧B=[]∧s'.T=s.T)∨(N=[x.G.Obj]∧B=[]∧(x.PC=3∨x.PC=37)∧¬(s.T.Marks|||bit x.G.Obj=s.T.Marks)∧s'.T={s.T with Marks:=s.T.Marks|||bit x.G.Obj})∨(N=[]∧B=[x.Obj]∧x.PC=38∧s'.T=wJ s.T x.Obj) ∨
    (N=[]∧B=[]∧x.PC=30∧Xz s.H s.P.Most=true∧s'.H=Z4 s.H∧s'.T=X5 s.T (wc (s.H.Objs.length+1))))
theorem zeM.quiet {p:zb} {nb k:Nat} {R:List Int} {gh:Gh} {s s':za} {x x':zc} (X:SX p nb s gh (uh x++R) k) (S':SOk p nb s') (hm:s'.M=s.M) (hb:s'.Bins=s.Bins) (hT:s'.T=s.T)
  (ho:uh x'=uh x) (hh:List.Perm (zW s' x') (zW s x)) (W':MX p s' gh x'):zeM p nb k R gh s x s' x' :=
 ⟨gh,by rw [ho];exact X.quiet S' hm,W',FX.quiet hm (fun _ _ _=>by rw [hb]),[],[],by rw [uI hb,List.append_nil];exact List.Perm.append_left _ hh,.inl ⟨rfl,rfl,hT⟩⟩
theorem zeM.calm {p:zb} {nb k:Nat} {R:List Int} {gh:Gh} {s s':za} {x x':zc} (X:SX p nb s gh (uh x++R) k) (S':SOk p nb s') (hm:s'.M=s.M) (hb:s'.Bins=s.Bins) (hT:s'.T=s.T)
  (h:x.PC≠3∧x.PC≠33∧x.PC≠34∧x.PC≠36∧x.PC≠37∧x.PC≠38) (h':x'.PC≠3∧x'.PC≠32∧x'.PC≠33∧x'.PC≠34∧x'.PC≠36∧x'.PC≠37∧x'.PC≠38) (eb:x'.Batch=x.Batch)
  (bt:x'.PC≤33→x'.Batch=[]) (bf: ∀v∈x'.Buf,1≤v∧v≤64) (ol:(x'.PC=21→0≤x'.Old∧x'.Old≤64)∧(x'.PC=22∨((x'.PC=1∨x'.PC=3)∧x'.Ret=22)→1≤x'.Old∧x'.Old≤64)):zeM p nb k R gh s x s' x':=by
 refine .quiet X S' hm hb hT ?_ ?_ (MX.plain (by omega) bt bf ol)
 ·rw [vz (by omega),vz (by omega)]
 ·unfold zW
  rw [ux (by omega),ux (by omega),eb]
theorem ztv {p:zb} {s:za} {gh:Gh} {md o w:Int} (hmd:md=2∨md=3) (ho:1≤o∧o≤64):GX p s gh (ZG md o w)∧(ZG md o w).Mode=md∧(ZG md o w).Out=0∧x8 (ZG md o w)=[]∧yh (ZG md o w)=[]:=by
 refine ⟨GX.plain (.inl rfl) ⟨by show (0:Int)≤0;decide,by show (0:Int)≤7;decide⟩ ⟨by show 1≤md;omega,by show md≤3;omega⟩ ho (fun e=>by have e:md=1:=e;omega) (.inr ⟨by show (0:Int)≠3;decide,by show (0:Int)≠5;decide,by show (0:Int)≠7;decide⟩),rfl,rfl,
  vd (.inr ⟨by show (0:Int)≠6;decide,by show (0:Int)≠7;decide⟩),Zm (.inr (.inl (by show (0:Int)<3;decide)))⟩
theorem zF3 {p:zb} (hp:zB p) {nb k:Nat} {R:List Int} {gh:Gh} {s:za} {m:Int} {x:zc} (hk:k<4294960000) (X:SX p nb s gh (uh x++R) k) (W:XOk p nb m x) (K:MX p s gh x) (hpl:((wM p m).length:Int)≤64)
  (hH: ∀o i,0≤xA s.H o i∧xA s.H o i≤64):zeM p nb k R gh s x (zA s m x).1 (zA s m x).2:=by
 have S':=(zCw hp hpl X.S W).1
 have hP:=X.S.P
 have eC:za2 s.P (zD s.P) x.Bin=za2 p (zD p) x.Bin:=by rw [hP]
 have hbf:=K.bf
 have hol:=K.ol
 revert S'
 refine un (motive:=fun r=>SOk p nb r.1→zeM p nb k R gh s x r.1 r.2) s m x ?_ ?_ ?_ ?_ ?_ ?_ ?_ ?_ ?_ ?_ ?_ ?_ ?_ ?_ ?_ ?_ ?_ ?_ ?_ ?_
 ·intro c;unfold mu0 zdg;dsimp only
  have hbt:=K.bt (by omega)
  repeat' split
  all_goals (intro S')
  all_goals (refine .calm X S' rfl rfl rfl (by omega) (by (try dsimp only [setM]);omega) rfl (fun _=>hbt) hbf ⟨fun e=> ?_,fun e=> ?_⟩<;>((try dsimp only [setM] at e);omega))
 ·intro c;unfold mu1;dsimp only
  have hbt:=K.bt (by omega)
  have hrt:=W.ret (.inl c)
  split
  ·intro S'
   exact .calm X S' rfl rfl rfl (by omega) (by dsimp only;omega) rfl (fun _=>hbt) hbf ⟨fun e=>by dsimp only at e;omega,fun e=>by dsimp only at e ⊢;exact hol.2 (by omega)⟩
  ·rename_i hl
   intro S'
   have hv:1≤x.Buf.getD (x.Buf.length-1) 0∧x.Buf.getD (x.Buf.length-1) 0≤64:=by
    rw [List.getD_eq_getElem?_getD,List.getElem?_eq_getElem (show x.Buf.length-1<x.Buf.length by omega)]
    exact hbf _ (List.getElem_mem _)
   obtain ⟨g1,g2,g3,g4,g5⟩:=ztv (p:=p) (s:=s) (gh:=gh) (w:=m) (.inl rfl) hv
   refine .quiet X S' rfl rfl rfl ?_ ?_ ⟨fun _=>hbt,fun v hv=>hbf v (List.mem_of_mem_take hv),⟨fun e=>(by cases e),fun e=> ?_⟩,fun _=>⟨g1,g2,g3⟩,fun e=>(by cases e),fun e=>(by cases e),fun e=>(by cases e)⟩
   ·rw [vz (x:=x) (by omega),zgn (.inl rfl)];exact g4
   ·unfold zW
    rw [ux (x:=x) (by omega),zpF rfl]
    show List.Perm (x.Batch++yh (ZG 2 (x.Buf.getD (x.Buf.length-1) 0) m)) _
    rw [g5]
   ·rcases e with e | e
    ·cases e
    ·exact hol.2 (.inr ⟨.inl c,e.2⟩)
 ·intro c S';unfold mu2 at S' ⊢
  exact .calm X S' rfl rfl rfl (by omega) (by dsimp only;omega) rfl (fun _=>K.bt (by omega)) hbf ⟨fun e=>by dsimp only at e;omega,fun e=>by dsimp only at e;omega⟩
 ·intro c;unfold mu3;dsimp only
  have hbt:=K.bt (by omega)
  obtain ⟨G,gm,g0⟩:=K.p3 c
  obtain ⟨M,h5o,hn1⟩:=W.g (.inl c)
  have eo:uh x=x8 x.G:=zgn (.inl c)
  have hh:zW s x=yh x.G:=by unfold zW;rw [zpF c,hbt,List.nil_append]
  rw [eo] at X
  obtain ⟨gh',X',G',Fx,hc',hFb,N,hN,hT⟩:=zAs hp hk X M h5o G
  have so:=UE s x.G
  have Fx':FX p nb (uh x) (fun _=>False) s (zx s x.G).1 gh gh':=by rw [eo];exact Fx.mono (fun v e=>by have:=e.1;omega)
  have hT':(N=[]∧([]:List Int)=[]∧(zx s x.G).1.T=s.T)∨(N=[x.G.Obj]∧([]:List Int)=[]∧(x.PC=3∨x.PC=37)∧¬(s.T.Marks|||bit x.G.Obj=s.T.Marks)∧(zx s x.G).1.T={s.T with Marks:=s.T.Marks|||bit x.G.Obj}):=by
   rcases hT with ⟨a,b⟩ | ⟨a,b,c'⟩
   ·exact .inl ⟨a,rfl,b⟩
   ·exact .inr ⟨a,rfl,.inl c,b,c'⟩
  split
  ·rename_i o1
   intro S'
   have n1:x8 (zx s x.G).2=[]:=vd (.inl (by omega))
   have n2:yh (zx s x.G).2=[]:=Zm (.inl (by omega))
   rw [n1] at X'
   refine ⟨gh',by rw [vz (by dsimp only;omega)];exact X',MX.plain (by dsimp only;omega) (fun _=>hbt) hbf ⟨fun e=>(by cases e),fun e=> ?_⟩,Fx',N,[],?_,hT'.elim .inl (fun h=> .inr (.inl h))⟩
   ·rcases e with e | e
    ·cases e
    ·exact hol.2 (.inr ⟨.inr c,e.2⟩)
   ·unfold zW
    rw [ux (by dsimp only;omega),List.append_nil,List.append_nil]
    rw [n2,List.append_nil] at hN
    show List.Perm (yo p (zx s x.G).1 gh'++x.Batch) (N++(yo p s gh++(x.Batch++zbA s x)))
    rw [hbt,zpF c,List.append_nil,List.nil_append]
    exact hN
  ·rename_i o1
   intro S'
   have o0:(zx s x.G).2.Out=0:=by have:=G'.o;omega
   refine ⟨gh',by rw [zgn (x:={x with G:=(zx s x.G).2}) (.inl c)];exact X',⟨fun _=>hbt,hbf,hol,fun _=>⟨G',so.2.2.trans gm,o0⟩,fun e=>by have e:x.PC=32:=e;omega,fun e=>by have e:x.PC=34:=e;omega,fun e=>by have e:x.PC=37:=e;omega⟩,Fx',N,[],?_,hT'.elim .inl (fun h=> .inr (.inl h))⟩
   unfold zW
   rw [zpF (x:={x with G:=(zx s x.G).2}) c,List.append_nil]
   show List.Perm (yo p (zx s x.G).1 gh'++(x.Batch++yh (zx s x.G).2)) (N++(yo p s gh++(x.Batch++zbA s x)))
   rw [hbt,zpF c,List.nil_append,List.nil_append]
   exact hN
 ·intro c S';unfold zn9 at S' ⊢
  exact .calm X S' rfl rfl rfl (by omega) (by dsimp only [setM];omega) rfl (fun _=>K.bt (by omega)) hbf ⟨fun e=>by dsimp only [setM] at e;omega,fun e=>by dsimp only [setM] at e;omega⟩
 ·intro c;unfold zma;dsimp only
  have hbt:=K.bt (by omega)
  split
  ·intro S'
   exact .calm X S' rfl rfl rfl (by omega) (by dsimp only [VA];omega) rfl (fun _=>hbt) hbf ⟨fun e=>by dsimp only [VA] at e;omega,fun e=>by dsimp only [VA] at e;omega⟩
  ·intro S'
   exact .calm X S' rfl rfl rfl (by omega) (by dsimp only;omega) rfl (fun _=>hbt) hbf ⟨fun _=>hH _ _,fun e=>by dsimp only at e;omega⟩
 ·intro c;unfold zmA;dsimp only
  have hbt:=K.bt (by omega)
  have h21:=hol.1 c
  split
  ·intro S'
   exact .calm X S' rfl rfl rfl (by omega) (by dsimp only;omega) rfl (fun _=>hbt) hbf ⟨fun e=>by dsimp only at e;omega,fun e=>by dsimp only at e;omega⟩
  ·rename_i hn
   intro S'
   have: ¬x.Old=0:=fun e=>hn (.inl e)
   exact .calm X S' rfl rfl rfl (by omega) (by dsimp only;omega) rfl (fun _=>hbt) hbf ⟨fun e=>by dsimp only at e;omega,fun e=>by dsimp only;omega⟩
 ·intro c;unfold zmw;dsimp only
  have hbt:=K.bt (by omega)
  have h22:=hol.2 (.inl c)
  split
  ·intro S'
   exact .calm X S' rfl rfl rfl (by omega) (by dsimp only;omega) rfl (fun _=>hbt) hbf ⟨fun e=>by dsimp only at e;omega,fun e=>h22⟩
  ·intro S'
   refine .calm X S' rfl rfl rfl (by omega) (by dsimp only;omega) rfl (fun _=>hbt) (fun v hv=> ?_) ⟨fun e=>by dsimp only at e;omega,fun e=>by dsimp only at e;omega⟩
   rcases List.mem_append.1 hv with h | h
   ·exact hbf v h
   ·rw [List.mem_singleton.1 h];exact h22
 ·intro c S';unfold zoq at S' ⊢
  exact .calm X S' rfl rfl rfl (by omega) (by dsimp only [VA];omega) rfl (fun _=>K.bt (by omega)) hbf ⟨fun e=>by dsimp only [VA] at e;omega,fun e=>by dsimp only [VA] at e;omega⟩
 ·intro c;unfold zg9
  have hbt:=K.bt (by omega)
  split
  ·split
   ·rename_i h1 h2
    intro S'
    refine ⟨gh,by rw [vz (by dsimp only [setM];omega)];rw [vz (x:=x) (by omega)] at X;exact X.quiet S' rfl,MX.plain (by dsimp only [setM];omega) (fun _=>hbt) hbf ⟨fun e=>by dsimp only [setM] at e;omega,fun e=>by dsimp only [setM] at e;omega⟩,FX.quiet rfl (fun _ _ _=>rfl),[],[],?_,.inr (.inr (.inr ⟨rfl,rfl,c,h2,rfl,rfl⟩))⟩
    rw [uI rfl,List.append_nil,List.nil_append]
    unfold zW
    rw [ux (by dsimp only [setM];omega),ux (x:=x) (by omega)]
    exact List.Perm.refl _
   ·intro S'
    exact .calm X S' rfl rfl rfl (by omega) (by dsimp only [VA];omega) rfl (fun _=>hbt) hbf ⟨fun e=>by dsimp only [VA] at e;omega,fun e=>by dsimp only [VA] at e;omega⟩
  ·intro S'
   exact .calm X S' rfl rfl rfl (by omega) (by dsimp only;omega) rfl (fun _=>hbt) hbf ⟨fun e=>by dsimp only at e;omega,fun e=>by dsimp only at e;omega⟩
 ·intro c;unfold zlM;dsimp only
  have hbt:=K.bt (by omega)
  split
  ·intro S'
   refine .quiet X S' rfl rfl rfl (by rw [vz (by dsimp only;omega),vz (x:=x) (by omega)]) ?_ ⟨fun _=>hbt,hbf,⟨fun e=>by dsimp only at e;omega,fun e=>by dsimp only at e;omega⟩,fun e=>by dsimp only at e;omega,fun _=>⟨rfl,⟨by show (0:Int)≤0;decide,by show (0:Int)≤2;decide⟩,by show CK p s.M (zBg s.P (zY s.P) x.Bin);rw [hP];exact CK.start⟩,fun e=>by dsimp only at e;omega,fun e=>by dsimp only at e;omega⟩
   unfold zW
   rw [ux (by dsimp only;omega),ux (x:=x) (by omega)]
  ·intro S'
   exact .calm X S' rfl rfl rfl (by omega) (by dsimp only;omega) rfl (fun _=>hbt) hbf ⟨fun e=>by dsimp only at e;omega,fun e=>by dsimp only at e;omega⟩
 ·intro c;unfold zlN;dsimp only
  have C:=W.c32 c
  obtain ⟨c1,c2,c3⟩:=K.p32 c
  have hbt:=K.bt (by omega)
  have eo:uh x=[]:=vz (by omega)
  have hh:zW s x=[]:=by unfold zW;rw [hbt,ux (by omega)];rfl
  have nn: ∀e:x.PC=21,False:=fun e=>by omega
  intro S'
  have S':SOk p nb {s with M:=(zn s.M x.C).1}:=S'
  rcases SX.popF hp X hk C.k C.h C.n c1 c2 c3 C.v S' with ⟨a,b,cc,d⟩ | ⟨y,l,a,b,cc,d,e⟩
  ·rw [if_neg b]
   have hout:=zbi s.M c1 c2 (.inr C.k)
   by_cases o2:(zn s.M x.C).2.Out=2
   ·rw [if_pos o2]
    exact .calm X S' a rfl rfl (by omega) (by dsimp only;omega) rfl (fun _=>hbt) hbf ⟨fun e=>by dsimp only at e;omega,fun e=>by dsimp only at e;omega⟩
   ·rw [if_neg o2]
    have hpc':(zn s.M x.C).2.Out=0∧0≤(zn s.M x.C).2.PC∧(zn s.M x.C).2.PC≤2:=by omega
    refine .quiet X S' a rfl rfl ?_ ?_ ⟨fun _=>hbt,hbf,hol,fun e=>by have e:x.PC=3:=e;omega,fun _=>⟨hpc'.1,hpc'.2,?_⟩,fun e=>by have e:x.PC=34:=e;omega,fun e=>by have e:x.PC=37:=e;omega⟩
    ·rw [eo];exact vz (by dsimp only;omega)
    ·unfold zW
     rw [ux (by dsimp only;omega),ux (x:=x) (by omega)]
    ·rw [show ({s with M:=(zn s.M x.C).1}:za).M=s.M from a];exact cc
  ·rw [if_pos b]
   have e1:uh {x with PC:=33,Bin:=(zn s.M x.C).2.X,C:=(zn s.M x.C).2}=[y]:=by rw [←cc];exact zcy (x:={x with PC:=33,Bin:=(zn s.M x.C).2.X,C:=(zn s.M x.C).2}) (.inl rfl)
   refine ⟨{gh with F:=l},by rw [e1];rw [eo] at d;exact d,MX.plain (by dsimp only;omega) (fun _=>hbt) hbf ⟨fun e=>by dsimp only at e;omega,fun e=>by dsimp only at e;omega⟩,e _ _,[],[],?_,.inl ⟨rfl,rfl,rfl⟩⟩
   rw [hh,List.append_nil,List.append_nil,List.nil_append]
   unfold zW
   rw [zqA (x:={x with PC:=33,Bin:=(zn s.M x.C).2.X,C:=(zn s.M x.C).2}) rfl]
   show List.Perm (yo p s {gh with F:=l}++(x.Batch++yu s (zn s.M x.C).2.X)) _
   rw [hbt,List.nil_append,cc]
   have:yo p s gh=yu s y++yo p s {gh with F:=l}:=by unfold yo;rw [a];simp [List.append_assoc]
   rw [this]
   exact List.perm_append_comm
 ·intro c;unfold znL;dsimp only
  intro S'
  have hb:=W.b33 c
  have hbt:=K.bt (by omega)
  have eo:uh x=[x.Bin]:=zcy (.inl c)
  rw [eC] at *
  have e1:uh {x with Batch:=WW s x.Bin,PC:=34,C:=za2 p (zD p) x.Bin}=[x.Bin]:=zcy (x:={x with Batch:=WW s x.Bin,PC:=34,C:=za2 p (zD p) x.Bin}) (.inr rfl)
  have hget: ∀b,1≤b→b∉uh x→(s.Bins.set x.Bin.toNat [])[b.toNat]? =s.Bins[b.toNat]? :=fun b b1 b2=>by
   rw [List.getElem?_set_ne]
   intro e
   rw [eo] at b2
   exact b2 (by rw [show b=x.Bin by omega];simp)
  refine ⟨gh,by rw [e1,←eo];exact X.quiet S' rfl,⟨fun e=>absurd e (by show ¬(34:Int)≤33;decide),hbf,⟨fun e=>by dsimp only at e;omega,fun e=>by dsimp only at e;omega⟩,fun e=>by dsimp only at e;omega,fun e=>by dsimp only at e;omega,fun _=>⟨rfl,⟨by show (0:Int)≤0;decide,by show (0:Int)≤2;decide⟩,rfl,CK.start⟩,fun e=>by dsimp only at e;omega⟩,FX.quiet rfl hget,[],[],?_,.inl ⟨rfl,rfl,rfl⟩⟩
  have hbag:yo p {s with Bins:=s.Bins.set x.Bin.toNat []} gh=yo p s gh:=by
   unfold yo
   congr 1
   refine xx (fun b hb=> ?_)
   have hm:=X.L.cF.mem b hb
   have hno:=(X.L.notF (x:=x.Bin) (by rw [eo];simp)).1
   unfold yu
   rw [show ({s with Bins:=s.Bins.set x.Bin.toNat []}:za).Bins=s.Bins.set x.Bin.toNat [] from rfl,hget b hm.1 (by rw [eo];intro e;rw [List.mem_singleton.1 e] at hb;exact hno hb)]
  rw [hbag,List.append_nil,List.nil_append]
  unfold zW
  rw [zqA c,ux (x:={x with Batch:=WW s x.Bin,PC:=34,C:=za2 p (zD p) x.Bin}) (by dsimp only;omega)]
  show List.Perm (yo p s gh++(WW s x.Bin++[])) _
  rw [hbt,List.append_nil,List.nil_append,zx0]
 ·intro c;unfold zlO;dsimp only
  intro S'
  have S':SOk p nb {s with M:=(zn s.M x.C).1}:=S'
  have C:=W.c34 c
  obtain ⟨c1,c2,c3,c4⟩:=K.p34 c
  have eo:uh x=[x.Bin]:=zcy (.inr c)
  have hh:zW s x=x.Batch:=by unfold zW;rw [ux (by omega),List.append_nil]
  rw [eo] at X
  rcases SX.pushE hp (o1:=[]) (o2:=R) (b:=x.Bin) X hk C.k C.h C.n c3 c1 c2 c4 C.v S' with ⟨a,b,cc,d⟩ | ⟨a,b,d⟩
  ·rw [a,if_neg (by decide)]
   have hout:=zbi s.M c1 c2 (.inl C.k)
   have hsame:=zl4 s.M x.C
   have hpc':0≤(zn s.M x.C).2.PC∧(zn s.M x.C).2.PC≤2:=by omega
   have e1:uh {x with C:=(zn s.M x.C).2}=[x.Bin]:=zcy (x:={x with C:=(zn s.M x.C).2}) (.inr c)
   refine ⟨gh,by rw [e1];exact b,⟨fun e=>by have e:x.PC≤33:=e;omega,hbf,hol,fun e=>by have e:x.PC=3:=e;omega,fun e=>by have e:x.PC=32:=e;omega,fun _=>⟨a,hpc',(hsame.2.2.2 C.k).trans c3,cc⟩,fun e=>by have e:x.PC=37:=e;omega⟩,by rw [eo];exact d _ _ (by simp),[],[],?_,.inl ⟨rfl,rfl,rfl⟩⟩
   rw [uI rfl,hh,List.append_nil]
   unfold zW
   rw [ux (x:={x with C:=(zn s.M x.C).2}) (by dsimp only;omega),List.append_nil]
   exact List.Perm.refl _
  ·rw [a,if_pos rfl]
   refine ⟨{gh with E:=x.Bin::gh.E},by rw [vz (by dsimp only;omega)];exact b,MX.plain (by dsimp only;omega) (fun e=>absurd e (by show ¬(35:Int)≤33;decide)) hbf ⟨fun e=>by dsimp only at e;omega,fun e=>by dsimp only at e;omega⟩,by rw [eo];exact d _ _,[],[],?_,.inl ⟨rfl,rfl,rfl⟩⟩
   rw [hh,List.append_nil]
   unfold zW
   rw [ux (by dsimp only;omega),List.append_nil]
   exact List.Perm.refl _
 ·intro c;unfold zmd;dsimp only
  split
  ·rename_i hb
   intro S'
   exact .calm X S' rfl rfl rfl (by omega) (by dsimp only;omega) rfl (fun _=>hb) hbf ⟨fun e=>by dsimp only at e;omega,fun e=>by dsimp only at e;omega⟩
  ·rename_i o l hb
   intro S'
   refine .quiet X S' rfl rfl rfl (by rw [vz (by dsimp only;omega),vz (x:=x) (by omega)]) ?_ (MX.plain (by dsimp only;omega) (fun e=>absurd e (by show ¬(36:Int)≤33;decide)) hbf ⟨fun e=>by dsimp only at e;omega,fun e=>by dsimp only at e;omega⟩)
   unfold zW
   rw [zb1 (.inl rfl),ux (x:=x) (by omega),hb,List.append_nil]
   exact List.perm_append_comm
 ·intro c;unfold zmz;dsimp only
  have hv:=hH x.Obj x.Slot
  have eo:uh x=[]:=vz (by omega)
  split
  ·rcases zg6 s (wc (x.Slot+1)) with e | e<;>rw [e]<;>intro S'
   ·refine .quiet X S' rfl rfl rfl (by rw [eo,vz (by dsimp only;omega)]) ?_ (MX.plain (by dsimp only;omega) (fun e=>absurd e (by show ¬(36:Int)≤33;decide)) hbf ⟨fun e=>by dsimp only at e;omega,fun e=>by dsimp only at e;omega⟩)
    unfold zW
    rw [zb1 (.inl c),zb1 (.inl rfl)]
   ·refine .quiet X S' rfl rfl rfl (by rw [eo,vz (by dsimp only;omega)]) ?_ (MX.plain (by dsimp only;omega) (fun e=>absurd e (by show ¬(38:Int)≤33;decide)) hbf ⟨fun e=>by dsimp only at e;omega,fun e=>by dsimp only at e;omega⟩)
    unfold zW
    rw [zb1 (.inl c),zb1 (.inr rfl)]
  ·rename_i hne
   intro S'
   obtain ⟨g1,g2,g3,g4,g5⟩:=ztv (p:=p) (s:=s) (gh:=gh) (w:=m) (.inr rfl) (show 1≤xA s.H x.Obj x.Slot∧xA s.H x.Obj x.Slot≤64 by omega)
   refine .quiet X S' rfl rfl rfl ?_ ?_ ⟨fun e=>absurd e (by show ¬(37:Int)≤33;decide),hbf,⟨fun e=>by dsimp only at e;omega,fun e=>by dsimp only at e;omega⟩,fun e=>by dsimp only at e;omega,fun e=>by dsimp only at e;omega,fun e=>by dsimp only at e;omega,fun _=>⟨g1,g2,g3⟩⟩
   ·rw [eo,zgn (.inr rfl)];exact g4
   ·unfold zW
    rw [zb1 (.inl c),zuH rfl]
    show List.Perm (x.Batch++x.Obj::yh (ZG 3 (xA s.H x.Obj x.Slot) m)) _
    rw [g5]
 ·intro c;unfold zjC;dsimp only
  obtain ⟨G,gm,g0⟩:=K.p37 c
  obtain ⟨M,h5o,hn1⟩:=W.g (.inr c)
  have eo:uh x=x8 x.G:=zgn (.inr c)
  have hh:zW s x=x.Batch++x.Obj::yh x.G:=by unfold zW;rw [zuH c]
  rw [eo] at X
  obtain ⟨gh',X',G',Fx,hc',hFb,N,hN,hT⟩:=zAs hp hk X M h5o G
  have so:=UE s x.G
  have Fx':FX p nb (uh x) (fun _=>False) s (zx s x.G).1 gh gh':=by rw [eo];exact Fx.mono (fun v e=>by have:=e.1;omega)
  have hT':(N=[]∧([]:List Int)=[]∧(zx s x.G).1.T=s.T)∨(N=[x.G.Obj]∧([]:List Int)=[]∧(x.PC=3∨x.PC=37)∧¬(s.T.Marks|||bit x.G.Obj=s.T.Marks)∧(zx s x.G).1.T={s.T with Marks:=s.T.Marks|||bit x.G.Obj}):=by
   rcases hT with ⟨a,b⟩ | ⟨a,b,c'⟩
   ·exact .inl ⟨a,rfl,b⟩
   ·exact .inr ⟨a,rfl,.inr c,b,c'⟩
  have perm: ∀H':List Int,H'=x.Batch++x.Obj::yh (zx s x.G).2→List.Perm (yo p (zx s x.G).1 gh'++H'++[]) (N++(yo p s gh++zW s x)):=by
   intro H' e
   rw [e,hh,List.append_nil]
   have a1:List.Perm (yo p (zx s x.G).1 gh'++(x.Batch++x.Obj::yh (zx s x.G).2)) ((x.Batch++[x.Obj])++(yo p (zx s x.G).1 gh'++yh (zx s x.G).2)):=by
    rw [show x.Batch++x.Obj::yh (zx s x.G).2=(x.Batch++[x.Obj])++yh (zx s x.G).2 by simp]
    exact List.perm_append_comm_assoc _ _ _
   have a2:List.Perm (N++(yo p s gh++(x.Batch++x.Obj::yh x.G))) ((x.Batch++[x.Obj])++(N++(yo p s gh++yh x.G))):=by
    rw [show x.Batch++x.Obj::yh x.G=(x.Batch++[x.Obj])++yh x.G by simp]
    exact (List.Perm.append_left N (List.perm_append_comm_assoc _ _ _)).trans (List.perm_append_comm_assoc _ _ _)
   exact a1.trans ((List.Perm.append_left _ hN).trans a2.symm)
  split
  ·rename_i o1
   intro S'
   have n1:x8 (zx s x.G).2=[]:=vd (.inl (by omega))
   have n2:yh (zx s x.G).2=[]:=Zm (.inl (by omega))
   rw [n1] at X'
   rcases zg6 s x.Slot with e | e<;>rw [e]
   ·refine ⟨gh',by rw [vz (by dsimp only;omega)];exact X',MX.plain (by dsimp only;omega) (fun e=>absurd e (by show ¬(36:Int)≤33;decide)) hbf ⟨fun e=>by dsimp only at e;omega,fun e=>by dsimp only at e;omega⟩,Fx',N,[],perm _ ?_,hT'.elim .inl (fun h=> .inr (.inl h))⟩
    unfold zW;rw [zb1 (.inl rfl),n2]
   ·refine ⟨gh',by rw [vz (by dsimp only;omega)];exact X',MX.plain (by dsimp only;omega) (fun e=>absurd e (by show ¬(38:Int)≤33;decide)) hbf ⟨fun e=>by dsimp only at e;omega,fun e=>by dsimp only at e;omega⟩,Fx',N,[],perm _ ?_,hT'.elim .inl (fun h=> .inr (.inl h))⟩
    unfold zW;rw [zb1 (.inr rfl),n2]
  ·rename_i o1
   intro S'
   have o0:(zx s x.G).2.Out=0:=by have:=G'.o;omega
   refine ⟨gh',by rw [zgn (x:={x with G:=(zx s x.G).2}) (.inr c)];exact X',⟨fun e=>by have e:x.PC≤33:=e;omega,hbf,hol,fun e=>by have e:x.PC=3:=e;omega,fun e=>by have e:x.PC=32:=e;omega,fun e=>by have e:x.PC=34:=e;omega,fun _=>⟨G',so.2.2.trans gm,o0⟩⟩,Fx',N,[],perm _ ?_,hT'.elim .inl (fun h=> .inr (.inl h))⟩
   unfold zW;rw [zuH (x:={x with G:=(zx s x.G).2}) c]
 ·intro c S';unfold zn5 at S' ⊢
  have eo:uh x=[]:=vz (by omega)
  refine ⟨gh,by rw [vz (by dsimp only;omega)];rw [eo] at X;exact X.quiet S' rfl,MX.plain (by dsimp only;omega) (fun e=>absurd e (by show ¬(39:Int)≤33;decide)) hbf ⟨fun e=>by dsimp only at e;omega,fun e=>by dsimp only at e;omega⟩,FX.quiet rfl (fun _ _ _=>rfl),[],[x.Obj],?_,.inr (.inr (.inl ⟨rfl,rfl,c,rfl⟩))⟩
  rw [uI rfl,List.nil_append]
  unfold zW
  rw [zb1 (.inr c),ux (by dsimp only;omega),List.append_nil,List.append_assoc]
  exact List.Perm.refl _
 ·intro c S';unfold zpx at S' ⊢
  exact .calm X S' rfl rfl rfl (by omega) (by dsimp only;omega) rfl (fun e=>absurd e (by show ¬(35:Int)≤33;decide)) hbf ⟨fun e=>by dsimp only at e;omega,fun e=>by dsimp only at e;omega⟩
 ·intro S'
  exact ⟨gh,X.quiet S' rfl,K,FX.quiet rfl (fun _ _ _=>rfl),[],[],by rw [List.append_nil];exact List.Perm.refl _,.inl ⟨rfl,rfl,rfl⟩⟩
end
end Go.Pe.G
namespace Go.Pe.G
open Go.Pe
noncomputable section
theorem Vs (a b:BitVec 64) (q:Int):z5 (a|||b) q=true↔z5 a q=true∨z5 b q=true:=by
 rw [xK,xK,xK,BitVec.getLsbD_or,Bool.or_eq_true]
 constructor
 ·rintro ⟨h1,h2,h | h⟩
  ·exact .inl ⟨h1,h2,h⟩
  ·exact .inr ⟨h1,h2,h⟩
 ·rintro (⟨h1,h2,h⟩ | ⟨h1,h2,h⟩)
  ·exact ⟨h1,h2,.inl h⟩
  ·exact ⟨h1,h2,.inr h⟩
theorem ze2 (h:zt) (a i v:Int):(zfm h a i v).Objs.length=h.Objs.length:=by
 unfold zfm;split<;>simp
theorem zo3 (h:zt):(Z4 h).Objs.length=h.Objs.length+1:=by unfold Z4;simp
end
end Go.Pe.G
namespace Go.Pe.G
open Go.Pe
noncomputable section
theorem zty: ∀(n:Fin 10) (j:Fin 64),(w8 (n.1:Int)).getLsbD j.1=decide (j.1<n.1):=by decide +kernel
theorem zof {n:Nat} (hn:n≤9) (o:Int):z5 (w8 (n:Int)) o=true↔1≤o∧o≤(n:Int):=by
 rw [xK]
 constructor
 ·rintro ⟨a,b,c⟩
  have:=zty ⟨n,by omega⟩ ⟨(o-1).toNat,by omega⟩
  rw [this] at c
  have:(o-1).toNat<n:=by simpa using c
  omega
 ·rintro ⟨a,b⟩
  have:=zty ⟨n,by omega⟩ ⟨(o-1).toNat,by omega⟩
  refine ⟨a,by omega,?_⟩
  rw [this]
  exact decide_eq_true (by show (o-1).toNat<n;omega)
end
end Go.Pe.G
namespace Go.Pe.G
open Go.Pe
noncomputable section
theorem zv2 {t:zo} {o:Int} (ho:1≤o∧o≤64) (hm: ¬z5 t.Marks o=true) (hb: ¬z5 t.Black o=true):vv t o=({t with Marks:=t.Marks|||bit o},true):=by
 unfold vv
 rw [if_neg ((zbk ho).2 hm),if_pos]
 unfold z5 at hb
 simpa using hb
theorem zx6 {o q:Int} (h:z5 (bit o) q=true):q=o:=by
 by_cases ho:1≤o∧o≤64
 ·have:=(wb 0#64 ho q).1 (by simpa using h)
  exact this.resolve_left (WN q)
 ·unfold bit at h;rw [if_neg ho] at h;exact absurd h (WN q)
theorem zjc {m:BitVec 64} {o q:Int} (h:z5 (m|||bit o) q=true):z5 m q=true∨q=o:=((Vs _ _ _).1 h).imp id zx6
theorem zw5 (t:zo) (o:Int):wR t o=2↔z5 t.Marks o=true∧z5 t.Black o=true:=by
 unfold wR
 cases h:z5 (t.Marks&&&t.Black) o with
 | true=>simp only [if_true,true_iff];exact (zcz _ _ o).1 h
 | false =>
  have hn: ¬(z5 t.Marks o=true∧z5 t.Black o=true):=fun e=>by rw [(zcz _ _ o).2 e] at h;cases h
  simp only [Bool.false_eq_true,if_false]
  constructor
  ·intro e;split at e<;>omega
  ·intro e;exact absurd e hn
theorem zgv (t:zo) (o:Int):(vv t o).1.Black=t.Black∧((vv t o).1.Marks=t.Marks∨(vv t o).1.Marks=t.Marks|||bit o):=by
 unfold vv
 split
 ·exact ⟨rfl,.inl rfl⟩
 split
 ·exact ⟨rfl,.inr rfl⟩
 ·exact ⟨rfl,.inl rfl⟩
theorem zm6 (t:zo) (o:Int):(wJ t o).Marks=t.Marks∧((wJ t o).Black=t.Black∨((wJ t o).Black=t.Black|||bit o∧z5 t.Marks o=true)):=by
 unfold wJ
 split
 ·rename_i h;exact ⟨rfl,.inr ⟨rfl,((WV t o).1 h).1⟩⟩
 ·exact ⟨rfl,.inl rfl⟩
theorem zBE (s:za) (g:zu):(zx s g).1.T=s.T∨(zx s g).1.T=(vv s.T g.Obj).1:=by
 unfold zx
 split
 ·exact .inl rfl
 split
 ·exact .inl rfl
 split
 ·exact .inl rfl
 split
 ·exact .inl rfl
 split
 ·exact .inl rfl
 split
 ·exact .inl rfl
 split
 ·exact .inl rfl
 split
 ·exact .inr rfl
 ·exact .inl rfl
theorem zsx (s:za) (m:Int) (x:zc) :
  ((zA s m x).1.H.Objs.length=s.H.Objs.length∧((zA s m x).1.T=s.T∨((zA s m x).1.T=(vv s.T x.G.Obj).1∧(x.PC=3∨x.PC=37))∨(zA s m x).1.T=wJ s.T x.Obj) ∧
   ((zA s m x).1.L=s.L∨(∃w,(zA s m x).1.L=(zcb s.L m w).1)∨(zA s m x).1.L=zcj s.L m)) ∨
  ((zA s m x).1.H=Z4 s.H∧(zA s m x).1.T=X5 s.T (wc (s.H.Objs.length+1))∧(zA s m x).1.L=zb8 s.L m s.P.Price∧ze3 s.L m s.P.Price s.P.Limit=true∧Xz s.H s.P.Most=true):=by
 refine un (motive:=fun r=>(r.1.H.Objs.length=s.H.Objs.length∧(r.1.T=s.T∨(r.1.T=(vv s.T x.G.Obj).1∧(x.PC=3∨x.PC=37))∨r.1.T=wJ s.T x.Obj)∧(r.1.L=s.L∨(∃w,r.1.L=(zcb s.L m w).1)∨r.1.L=zcj s.L m)) ∨
  (r.1.H=Z4 s.H∧r.1.T=X5 s.T (wc (s.H.Objs.length+1))∧r.1.L=zb8 s.L m s.P.Price∧ze3 s.L m s.P.Price s.P.Limit=true∧Xz s.H s.P.Most=true)) s m x ?_ ?_ ?_ ?_ ?_ ?_ ?_ ?_ ?_ ?_ ?_ ?_ ?_ ?_ ?_ ?_ ?_ ?_ ?_ ?_
 ·intro c;exact .inl ⟨rfl,.inl rfl,.inl rfl⟩
 ·intro c;exact .inl ⟨rfl,.inl rfl,.inl rfl⟩
 ·intro c;exact .inl ⟨rfl,.inl rfl,.inl rfl⟩
 ·intro c;unfold mu3
  refine .inl ⟨by rw [zbh],(zBE s x.G).imp id (fun h=> .inl ⟨h,.inl c⟩),.inl (by rw [zbh])⟩
 ·intro c;exact .inl ⟨rfl,.inl rfl,.inl rfl⟩
 ·intro c;exact .inl ⟨rfl,.inl rfl,.inl rfl⟩
 ·intro c;exact .inl ⟨rfl,.inl rfl,.inl rfl⟩
 ·intro c;exact .inl ⟨rfl,.inl rfl,.inl rfl⟩
 ·intro c;exact .inl ⟨ze2 _ _ _ _,.inl rfl,.inl rfl⟩
 ·intro c;unfold zg9
  split
  ·split
   ·rename_i h1 h2;exact .inr ⟨rfl,rfl,rfl,h1,h2⟩
   ·exact .inl ⟨rfl,.inl rfl,.inl rfl⟩
  ·exact .inl ⟨rfl,.inl rfl,.inl rfl⟩
 ·intro c;exact .inl ⟨rfl,.inl rfl,.inr (.inl ⟨_,rfl⟩)⟩
 ·intro c;exact .inl ⟨rfl,.inl rfl,.inl rfl⟩
 ·intro c;exact .inl ⟨rfl,.inl rfl,.inl rfl⟩
 ·intro c;exact .inl ⟨rfl,.inl rfl,.inl rfl⟩
 ·intro c;exact .inl ⟨rfl,.inl rfl,.inl rfl⟩
 ·intro c;exact .inl ⟨rfl,.inl rfl,.inl rfl⟩
 ·intro c;unfold zjC
  refine .inl ⟨by rw [zbh],(zBE s x.G).imp id (fun h=> .inl ⟨h,.inr c⟩),.inl (by rw [zbh])⟩
 ·intro c;exact .inl ⟨rfl,.inr (.inr rfl),.inr (.inr rfl)⟩
 ·intro c;exact .inl ⟨rfl,.inl rfl,.inl rfl⟩
 ·exact .inl ⟨rfl,.inl rfl,.inl rfl⟩
def za9 (n:Int) (x:zc):Prop:=(∀v∈x.Buf,v≤n)∧x.Old≤n∧(x.PC=3∨x.PC=37→x.G.Obj≤n)
theorem zye {h:zt} {n:Int} (h0:0≤n) (hv: ∀l∈h.Objs,∀v∈l,v≤n) (o i:Int):xA h o i≤n:=by
 unfold xA
 split
 ·rw [List.getD_eq_getElem?_getD]
  cases hx:(zV h o)[i.toNat]? with
  | none=>exact h0
  | some v =>
   have hm:=List.mem_of_getElem? hx
   unfold zV at hm
   rw [List.getD_eq_getElem?_getD] at hm
   cases hy:h.Objs[(o-1).toNat]? with
   | none=>rw [hy] at hm;cases hm
   | some l=>rw [hy] at hm;exact hv l (List.mem_of_getElem? hy) v hm
 ·exact h0
theorem zvN {p:zb} {nb:Nat} {s:za} {m:Int} {x:zc} (X:XOk p nb m x) {n:Int} (h0:0≤n) (hv: ∀l∈s.H.Objs,∀v∈l,v≤n) (B:za9 n x):za9 n (zA s m x).2:=by
 obtain ⟨b1,b2,b3⟩:=B
 have no: ∀ {y:zc},(∀v∈y.Buf,v≤n)→y.Old≤n→¬(y.PC=3∨y.PC=37)→za9 n y:=fun h1 h2 h3=>⟨h1,h2,fun e=>absurd e h3⟩
 refine un (motive:=fun r=>za9 n r.2) s m x ?_ ?_ ?_ ?_ ?_ ?_ ?_ ?_ ?_ ?_ ?_ ?_ ?_ ?_ ?_ ?_ ?_ ?_ ?_ ?_
 ·intro c;unfold mu0 zdg
  repeat' split
  all_goals exact no b1 b2 (by dsimp only [setM];omega)
 ·intro c;unfold mu1;dsimp only
  split
  ·exact no b1 b2 (by have:=X.ret (.inl c);show ¬(x.Ret=3∨x.Ret=37);omega)
  ·rename_i hl
   refine ⟨fun v hv=>b1 v (List.mem_of_mem_take hv),b2,fun _=> ?_⟩
   show x.Buf.getD (x.Buf.length-1) 0≤n
   rw [List.getD_eq_getElem?_getD,List.getElem?_eq_getElem (show x.Buf.length-1<x.Buf.length by omega)]
   exact b1 _ (List.getElem_mem _)
 ·intro c;unfold mu2;exact no b1 b2 (by show ¬((0:Int)=3∨(0:Int)=37);decide)
 ·intro c;unfold mu3;dsimp only
  split
  ·exact no b1 b2 (by show ¬((1:Int)=3∨(1:Int)=37);decide)
  ·exact ⟨b1,b2,fun _=>by show (zx s x.G).2.Obj≤n;rw [(UE s x.G).1];exact b3 (.inl c)⟩
 ·intro c;unfold zn9;exact no b1 b2 (by show ¬((0:Int)=3∨(0:Int)=37);decide)
 ·intro c;unfold zma;dsimp only
  split
  ·exact no b1 b2 (by show ¬((0:Int)=3∨(0:Int)=37);decide)
  ·exact no b1 (zye h0 hv _ _) (by show ¬((21:Int)=3∨(21:Int)=37);decide)
 ·intro c;unfold zmA;dsimp only
  split
  ·exact no b1 h0 (by show ¬((23:Int)=3∨(23:Int)=37);decide)
  ·exact no b1 b2 (by show ¬((22:Int)=3∨(22:Int)=37);decide)
 ·intro c;unfold zmw;dsimp only
  split
  ·exact no b1 b2 (by show ¬((1:Int)=3∨(1:Int)=37);decide)
  ·refine no (fun v hv=> ?_) h0 (by show ¬((23:Int)=3∨(23:Int)=37);decide)
   rcases List.mem_append.1 hv with h | h
   ·exact b1 v h
   ·rw [List.mem_singleton.1 h];exact b2
 ·intro c;unfold zoq;exact no b1 b2 (by show ¬((0:Int)=3∨(0:Int)=37);decide)
 ·intro c;unfold zg9
  split
  ·split
   ·exact no b1 b2 (by show ¬((0:Int)=3∨(0:Int)=37);decide)
   ·exact no b1 b2 (by show ¬((0:Int)=3∨(0:Int)=37);decide)
  ·exact no b1 b2 (by show ¬((31:Int)=3∨(31:Int)=37);decide)
 ·intro c;unfold zlM;dsimp only
  split
  ·exact no b1 b2 (by show ¬((32:Int)=3∨(32:Int)=37);decide)
  ·exact no b1 b2 (by show ¬((0:Int)=3∨(0:Int)=37);decide)
 ·intro c;unfold zlN;dsimp only
  split
  ·exact no b1 b2 (by show ¬((33:Int)=3∨(33:Int)=37);decide)
  split
  ·exact no b1 b2 (by show ¬((0:Int)=3∨(0:Int)=37);decide)
  ·exact no b1 b2 (by show ¬(x.PC=3∨x.PC=37);omega)
 ·intro c;unfold znL;exact no b1 b2 (by show ¬((34:Int)=3∨(34:Int)=37);decide)
 ·intro c;unfold zlO;dsimp only
  split
  ·exact no b1 b2 (by show ¬((35:Int)=3∨(35:Int)=37);decide)
  ·exact no b1 b2 (by show ¬(x.PC=3∨x.PC=37);omega)
 ·intro c;unfold zmd;dsimp only
  split
  ·exact no b1 b2 (by show ¬((0:Int)=3∨(0:Int)=37);decide)
  ·exact no b1 b2 (by show ¬((36:Int)=3∨(36:Int)=37);decide)
 ·intro c;unfold zmz;dsimp only
  split
  ·exact no b1 b2 (by have:=zg6 s (wc (x.Slot+1));show ¬(onM s (wc (x.Slot+1))=3∨onM s (wc (x.Slot+1))=37);omega)
  ·exact ⟨b1,b2,fun _=>zye h0 hv _ _⟩
 ·intro c;unfold zjC;dsimp only
  split
  ·exact no b1 b2 (by have:=zg6 s x.Slot;show ¬(onM s x.Slot=3∨onM s x.Slot=37);omega)
  ·exact ⟨b1,b2,fun _=>by show (zx s x.G).2.Obj≤n;rw [(UE s x.G).1];exact b3 (.inr c)⟩
 ·intro c;unfold zn5;exact no b1 b2 (by show ¬((39:Int)=3∨(39:Int)=37);decide)
 ·intro c;unfold zpx;exact no b1 b2 (by show ¬((35:Int)=3∨(35:Int)=37);decide)
 ·exact ⟨b1,b2,b3⟩
theorem zqF: ∀(l:List Int) (i:Nat) (v:Int),i<l.length→(l.set i v).sum=l.sum-l.getD i 0+v
 | [],i,v,h=>by simp at h
 | a::l,0,v,h=>by simp only [List.set_cons_zero,List.sum_cons,List.getD_cons_zero];omega
 | a::l,i+1,v,h=>by
  simp only [List.set_cons_succ,List.sum_cons,List.getD_cons_succ,zqF l i v (by simpa using h)];omega
structure LdI (p:zb) (k d:Int) (l:zk):Prop where
 pool:l.Pool=0
 sc:0≤l.Scanned∧l.Scanned≤k
 sp:l.Spent=p.Price*d
 bal: ∀b∈l.Bal,-p.Limit≤b∧b≤k
 sum:l.Bal.sum=l.Scanned-l.Spent
theorem LdI.more {p:zb} {k d:Int} {l:zk} (I:LdI p k d l):LdI p (k+1) d l :=
 ⟨I.pool,by have:=I.sc;omega,I.sp,fun b hb=>by have:=I.bal b hb;omega,I.sum⟩
theorem zBx {l:List Int} {i:Nat} (h:i<l.length):l.getD i 0∈l:=by
 rw [List.getD_eq_getElem?_getD,List.getElem?_eq_getElem h];exact List.getElem_mem h
theorem LdI.take {p:zb} {k d:Int} {l:zk} (I:LdI p k d l) (m w:Int):(zcb l m w).1=l:=by
 unfold zcb zlS
 rw [if_neg]
 rintro ⟨_,h⟩
 rw [I.pool] at h
 split at h<;>omega
theorem LdI.earn {p:zb} (hp:zB p) {k d:Int} (hk:0≤k∧k≤1000) {l:zk} (I:LdI p k d l) {m:Int} (hm:1≤m∧m≤(l.Bal.length:Int)):LdI p (k+1) d (zcj l m):=by
 have hsc:=I.sc
 have hl:=hp.limit
 have hb:=I.bal _ (zBx (l:=l.Bal) (i:=(m-1).toNat) (by omega))
 unfold zcj
 rw [if_pos hm]
 have w1:wc (l.Scanned+1)=l.Scanned+1:=xu (by omega) (by omega)
 have w2:wc (l.Bal.getD (m-1).toNat 0+1)=l.Bal.getD (m-1).toNat 0+1:=xu (by omega) (by omega)
 rw [w1,w2]
 refine ⟨I.pool,by dsimp only;omega,I.sp,fun b hb'=> ?_,?_⟩
 ·rcases List.mem_or_eq_of_mem_set hb' with h | rfl
  ·have:=I.bal b h;omega
  ·omega
 ·dsimp only
  rw [zqF _ _ _ (by omega),I.sum];omega
theorem zCt {a d:Int} (h:0≤a∧a≤3):a*(d+1)=a*d+a:=by rw [Int.mul_add,Int.mul_one]
theorem zDU {a d:Int} (h:0≤a∧a≤3) (hd:0≤d∧d≤10):0≤a*d∧a*d≤30:=by
 refine ⟨Int.mul_nonneg h.1 hd.1,?_⟩
 have:=Int.mul_le_mul h.2 hd.2 hd.1 (by decide:(0:Int)≤3)
 omega
theorem LdI.spend {p:zb} (hp:zB p) {k d:Int} (hk:0≤k∧k≤1000) (hd:0≤d∧d≤9) {l:zk} (I:LdI p k d l) {m:Int} (h:ze3 l m p.Price p.Limit=true):LdI p (k+1) (d+1) (zb8 l m p.Price):=by
 have hsc:=I.sc
 have hl:=hp.limit
 have hpr:=hp.price
 have hsp:=zDU hpr (d:=d) (by omega)
 have e1:=I.sp
 unfold ze3 U0 UO at h
 simp only [Bool.and_eq_true,decide_eq_true_eq] at h
 obtain ⟨⟨⟨⟨⟨⟨m1,m2⟩,_⟩,_⟩,_⟩,_⟩,h⟩:=h
 have hb:=I.bal _ (zBx (l:=l.Bal) (i:=(m-1).toNat) (by omega))
 unfold zbj at h
 rw [xu (by omega) (by omega),xu (by omega) (by omega)] at h
 unfold zb8 zbj
 rw [xu (by omega) (by omega),xu (by omega) (by omega)]
 refine ⟨I.pool,by dsimp only;omega,?_,fun b hb'=> ?_,?_⟩
 ·dsimp only;rw [zCt hpr];omega
 ·rcases List.mem_or_eq_of_mem_set hb' with h2 | rfl
  ·have:=I.bal b h2;omega
  ·omega
 ·dsimp only
  rw [zqF _ _ _ (by omega),I.sum];omega
structure NwI (p:zb) (k:Int) (s:za):Prop where
 mrk: ∀o,z5 s.T.Marks o=true→o≤(s.H.Objs.length:Int)
 bm: ∀o,z5 s.T.Black o=true→z5 s.T.Marks o=true
 bk: ∀o,(p.H.Objs.length:Int)<o→o≤(s.H.Objs.length:Int)→wR s.T o=2
 buf: ∀x∈s.Ms,za9 (s.H.Objs.length:Int) x
 bl:s.L.Bal.length=s.Ms.length
 L:LdI p k ((s.H.Objs.length:Int)-(p.H.Objs.length:Int)) s.L
theorem zCZ (l:zk) (m:Int):(zcj l m).Bal.length=l.Bal.length:=by unfold zcj;split<;>simp
theorem NwI.step {p:zb} {nb:Nat} (hp:zB p) {k:Int} (hk:0≤k∧k≤1000) {s:za} (E:EOk p nb s) (I:NwI p k s) (m:Int):NwI p (k+1) (yI s m):=by
 have hN:=E.H.n
 have hM:=hp.most
 have hn6:=hp.n
 unfold yI
 split
 ·exact ⟨I.mrk,I.bm,I.bk,I.buf,I.bl,I.L.more⟩
 rename_i hne
 cases hx:s.Ms[(m-1).toNat]? with
 | none=>exact ⟨I.mrk,I.bm,I.bk,I.buf,I.bl,I.L.more⟩
 | some x =>
  have hm:1≤m∧m≤(s.Ms.length:Int):=by omega
  have X:=E.X _ x hx
  have B:=I.buf x (List.mem_of_getElem? hx)
  have em:(((m-1).toNat:Nat):Int)+1=m:=by omega
  rw [em] at X
  have B':=zvN (s:=s) X (n:=(s.H.Objs.length:Int)) (by omega) (fun l hl v hv=>((E.H.objs l hl).2 v hv).2) B
  have bufs: ∀N':Int,(s.H.Objs.length:Int)≤N'→∀y∈s.Ms.set (m-1).toNat (zA s m x).2,za9 N' y:=fun N' hN' y hy=>by
   have up: ∀ {z:zc},za9 (s.H.Objs.length:Int) z→za9 N' z:=fun ⟨a,b,c⟩=>⟨fun v hv=>by have:=a v hv;omega,by omega,fun e=>by have:=c e;omega⟩
   rcases List.mem_or_eq_of_mem_set hy with h | rfl
   ·exact up (I.buf y h)
   ·exact up B'
  have hL:=I.L
  rcases zsx s m x with ⟨k1,k2,k3⟩ | ⟨k1,k2,k3,k4,k5⟩
  ·refine ⟨fun o ho=> ?_,fun o ho=> ?_,fun o h1 h2=> ?_,?_,?_,?_⟩
   ·dsimp only at ho ⊢
    rw [k1]
    rcases k2 with e | ⟨e,hpc⟩ | e
    ·rw [e] at ho;exact I.mrk o ho
    ·rw [e] at ho
     rcases (zgv s.T x.G.Obj).2 with e2 | e2
     ·rw [e2] at ho;exact I.mrk o ho
     ·rw [e2] at ho
      rcases zjc ho with h | rfl
      ·exact I.mrk o h
      ·exact B.2.2 hpc
    ·rw [e,(zm6 s.T x.Obj).1] at ho;exact I.mrk o ho
   ·dsimp only at ho ⊢
    rcases k2 with e | ⟨e,hpc⟩ | e
    ·rw [e] at ho ⊢;exact I.bm o ho
    ·rw [e] at ho ⊢
     rw [(zgv s.T x.G.Obj).1] at ho
     have:=I.bm o ho
     rcases (zgv s.T x.G.Obj).2 with e2 | e2
     ·rw [e2];exact this
     ·rw [e2];exact (Vs _ _ _).2 (.inl this)
    ·rw [e] at ho ⊢
     rw [(zm6 s.T x.Obj).1]
     rcases (zm6 s.T x.Obj).2 with e2 | ⟨e2,h3⟩
     ·rw [e2] at ho;exact I.bm o ho
     ·rw [e2] at ho
      rcases zjc ho with h | rfl
      ·exact I.bm o h
      ·exact h3
   ·dsimp only at h2 ⊢
    rw [k1] at h2
    have h:=(zw5 _ _).1 (I.bk o h1 h2)
    rw [zw5]
    rcases k2 with e | ⟨e,hpc⟩ | e
    ·rw [e];exact h
    ·rw [e,(zgv s.T x.G.Obj).1]
     refine ⟨?_,h.2⟩
     rcases (zgv s.T x.G.Obj).2 with e2 | e2
     ·rw [e2];exact h.1
     ·rw [e2];exact (Vs _ _ _).2 (.inl h.1)
    ·rw [e,(zm6 s.T x.Obj).1]
     refine ⟨h.1,?_⟩
     rcases (zm6 s.T x.Obj).2 with e2 | ⟨e2,_⟩
     ·rw [e2];exact h.2
     ·rw [e2];exact (Vs _ _ _).2 (.inl h.2)
   ·dsimp only;rw [k1];exact bufs _ (Int.le_refl _)
   ·dsimp only
    rw [List.length_set]
    rcases k3 with e | ⟨w,e⟩ | e
    ·rw [e];exact I.bl
    ·rw [e,hL.take];exact I.bl
    ·rw [e,zCZ];exact I.bl
   ·dsimp only
    rw [k1]
    rcases k3 with e | ⟨w,e⟩ | e
    ·rw [e];exact hL.more
    ·rw [e,hL.take];exact hL.more
    ·rw [e];exact hL.earn hp hk (by have:=I.bl;omega)
  ·have w:wc ((s.H.Objs.length:Int)+1)=(s.H.Objs.length:Int)+1:=xu (by omega) (by omega)
   have hal:=zo3 s.H
   have hP:=E.S.P
   have hr:(s.H.Objs.length:Int)<s.P.Most:=by
    unfold Xz at k5
    simp only [Bool.and_eq_true,decide_eq_true_eq] at k5
    exact k5.1
   rw [hP] at hr k3 k4
   rw [w] at k2
   have nm: ¬z5 s.T.Marks ((s.H.Objs.length:Int)+1)=true:=fun e=>by have:=I.mrk _ e;omega
   have nb': ¬z5 s.T.Black ((s.H.Objs.length:Int)+1)=true:=fun e=>nm (I.bm _ e)
   have hsh:=zv2 (t:=s.T) (o:=(s.H.Objs.length:Int)+1) (by omega) nm nb'
   have ht1:wR {s.T with Marks:=s.T.Marks|||bit ((s.H.Objs.length:Int)+1)} ((s.H.Objs.length:Int)+1)=1 :=
    (WV _ _).2 ⟨(wb _ (by omega) _).2 (.inr rfl),nb'⟩
   have hT:(zA s m x).1.T=⟨s.T.Marks|||bit ((s.H.Objs.length:Int)+1),s.T.Black|||bit ((s.H.Objs.length:Int)+1)⟩:=by
    rw [k2]
    unfold X5
    rw [hsh]
    dsimp only
    rw [if_pos rfl]
    unfold wJ
    rw [if_pos ht1]
   refine ⟨fun o ho=> ?_,fun o ho=> ?_,fun o h1 h2=> ?_,?_,?_,?_⟩
   ·dsimp only at ho ⊢
    rw [k1,hal]
    rw [hT] at ho
    rcases zjc ho with h | rfl
    ·have:=I.mrk o h;omega
    ·omega
   ·dsimp only at ho ⊢
    rw [hT] at ho ⊢
    dsimp only at ho ⊢
    rw [Vs]
    rcases (Vs _ _ _).1 ho with h | h
    ·exact .inl (I.bm o h)
    ·exact .inr h
   ·dsimp only at h2 ⊢
    rw [k1,hal] at h2
    rw [zw5,hT]
    dsimp only
    by_cases ho:o≤(s.H.Objs.length:Int)
    ·have h:=(zw5 _ _).1 (I.bk o h1 ho)
     exact ⟨(Vs _ _ _).2 (.inl h.1),(Vs _ _ _).2 (.inl h.2)⟩
    ·have:o=(s.H.Objs.length:Int)+1:=by omega
     subst this
     exact ⟨(wb _ (by omega) _).2 (.inr rfl),(wb _ (by omega) _).2 (.inr rfl)⟩
   ·dsimp only;rw [k1,hal];exact bufs _ (by omega)
   ·dsimp only
    rw [List.length_set,k3]
    unfold zb8
    rw [List.length_set]
    exact I.bl
   ·dsimp only
    rw [k3,k1,hal]
    have:=hL.spend hp hk (by omega) k4
    have e:((s.H.Objs.length+1:Nat):Int)-(p.H.Objs.length:Int)=(s.H.Objs.length:Int)-(p.H.Objs.length:Int)+1:=by omega
    rw [e]
    exact this
end
end Go.Pe.G
namespace Go.Pe.G
open Go.Pe
noncomputable section
def vu (p:zb) (s:za) (g:Gh):List Int:=yo p s g++(s.Ws.flatMap (zJ s)++s.Ms.flatMap (zW s))
structure FG (p:zb) (nb k:Nat) (s:za) (gh:Gh):Prop where
 E:EOk p nb s
 X:SX p nb s gh (s.Ws.flatMap wg++s.Ms.flatMap uh) k
 W: ∀(i:Nat) x,s.Ws[i]? =some x→WX p s gh ((i:Int)+1) x
 M: ∀(i:Nat) x,s.Ms[i]? =some x→MX p s gh x
 B:zae (vu p s gh) s.T
 mrk: ∀o,z5 s.T.Marks o=true→o≤(s.H.Objs.length:Int)
 wob: ∀(i:Nat) x,s.Ws[i]? =some x→x.PC=6→x.G.Obj≤(s.H.Objs.length:Int)
 buf: ∀x∈s.Ms,za9 (s.H.Objs.length:Int) x
 bk: ∀o,(p.H.Objs.length:Int)<o→o≤(s.H.Objs.length:Int)→z5 s.T.Black o=true
 ne: ∀y∈gh.F,yu s y≠[]
theorem FX.ne {p:zb} {nb k:Nat} {s s':za} {gh gh':Gh} {Y R:List Int} {O:Int→Prop} (X:SX p nb s gh (Y++R) k) (Fx:FX p nb Y O s s' gh gh') (h: ∀y∈gh.F,yu s y≠[]): ∀y∈gh'.F,yu s' y≠[]:=fun y hy =>
 (Fx.fb y hy).elim (fun hy=>by
  have h1:=zqj.1 (X.L.all.subset (List.mem_append_left _ (List.mem_append_left _ hy)))
  have h2:y∉Y:=fun e=>(X.L.notF (List.mem_append_left _ e)).1 hy
  have:=Fx.bn y h1.1 h2
  unfold yu
  rw [this];exact h y hy) id
theorem MX.state {p:zb} {s s':za} {gh:Gh} {x:zc} (W:MX p s gh x) (hm:s'.M=s.M) (hb:s'.Bins=s.Bins):MX p s' gh x :=
 ⟨W.bt,W.bf,W.ol,fun e=>⟨(W.p3 e).1.state hm hb,(W.p3 e).2⟩,by rw [hm];exact W.p32,by rw [hm];exact W.p34,fun e=>⟨(W.p37 e).1.state hm hb,(W.p37 e).2⟩⟩
theorem zfQ {s s':za} {x:zc} (hb:s'.Bins=s.Bins):zW s' x=zW s x:=by
 unfold zW zbA yu;rw [hb]
def ziF (s s':za):Prop :=
 (s'.T=s.T∧s'.H.Objs.length=s.H.Objs.length) ∨
 (∃o,(1≤o∧o≤(s.H.Objs.length:Int))∧¬z5 s.T.Marks o=true∧s'.T={s.T with Marks:=s.T.Marks|||bit o}∧s'.H=s.H) ∨
 (∃o,wR s.T o=1∧s'.T={s.T with Black:=s.T.Black|||bit o}∧s'.H=s.H) ∨
 (s'.H=Z4 s.H∧(s.H.Objs.length:Int)<9∧s'.T=⟨s.T.Marks|||bit ((s.H.Objs.length:Int)+1),s.T.Black|||bit ((s.H.Objs.length:Int)+1)⟩)
theorem FG.tints {p:zb} {nb k:Nat} {s:za} {gh:Gh} (G:FG p nb k s gh) {s':za} (F:ziF s s') :
  (∀o,z5 s'.T.Marks o=true→o≤(s'.H.Objs.length:Int))∧(∀o,(p.H.Objs.length:Int)<o→o≤(s'.H.Objs.length:Int)→z5 s'.T.Black o=true):=by
 rcases F with ⟨e,h⟩ | ⟨o,ho,hn,e,h⟩ | ⟨o,ho,e,h⟩ | ⟨h,hl,e⟩
 ·rw [e,h];exact ⟨G.mrk,G.bk⟩
 ·rw [e,h]
  refine ⟨fun q hq=> ?_,G.bk⟩
  rcases zjc hq with hq | rfl
  ·exact G.mrk q hq
  ·exact ho.2
 ·rw [e,h]
  exact ⟨G.mrk,fun q h1 h2=>(Vs _ _ _).2 (.inl (G.bk q h1 h2))⟩
 ·rw [e,h]
  have hal:=zo3 s.H
  refine ⟨fun q hq=> ?_,fun q h1 h2=> ?_⟩
  ·rcases zjc hq with hq | rfl
   ·have:=G.mrk q hq;omega
   ·omega
  ·dsimp only
   by_cases hq:q≤(s.H.Objs.length:Int)
   ·exact (Vs _ _ _).2 (.inl (G.bk q h1 hq))
   ·have:q=(s.H.Objs.length:Int)+1:=by omega
    subst this
    exact (wb _ (by omega) _).2 (.inr rfl)
theorem FG.det {p:zb} (hp:zB p) {nb k:Nat} {s:za} {gh:Gh} (G:FG p nb k s gh) (hd:({xB s with Epoch:=s.Epoch,Flag:=s.Flag,Done:=s.Done,Restarts:=s.Restarts,D:=s.D}:za)=s):FG p nb (k+1) (xB s) gh:=by
 have hE:=zDZ hp G.E
 have eM:(xB s).M=s.M:=by conv=>rhs;rw [←hd]
 have eB:(xB s).Bins=s.Bins:=by conv=>rhs;rw [←hd]
 have eT:(xB s).T=s.T:=by conv=>rhs;rw [←hd]
 have eH:(xB s).H=s.H:=by conv=>rhs;rw [←hd]
 have eW:(xB s).Ws=s.Ws:=by conv=>rhs;rw [←hd]
 have eX:(xB s).Ms=s.Ms:=by conv=>rhs;rw [←hd]
 refine ⟨hE,?_,?_,?_,?_,by rw [eT,eH];exact G.mrk,by rw [eW,eH];exact G.wob,by rw [eX,eH];exact G.buf,by rw [eT,eH];exact G.bk,by unfold yu;rw [eB];exact G.ne⟩
 ·rw [eW,eX];exact G.X.quiet hE.S eM
 ·rw [eW];exact fun i x hx=>(G.W i x hx).state eM eB
 ·rw [eX];exact fun i x hx=>(G.M i x hx).state eM eB
 ·have e:vu p (xB s) gh=vu p s gh:=by
   unfold vu
   rw [eW,eX,uI eB,xx (fun x _=>zbU (x:=x) eM eB),xx (fun x _=>zfQ (x:=x) eB)]
  rw [e,eT];exact G.B
theorem FG.worker {p:zb} (hp:zB p) {nb k:Nat} {s:za} {gh:Gh} (hk:k<4294960000) (G:FG p nb k s gh) {w:Int} (hw:1≤w∧w≤p.Workers) (hd:s.Done=false): ∃gh',FG p nb (k+1) (yy s w) gh'∧ziF s (yy s w) ∧
  ∃x,s.Ws[(w-1).toNat]? =some x∧∃N C,List.Perm (vu p (yy s w) gh'++C) (N++vu p s gh)∧((N=[]∧C=[]∧(zp s w x).1.T=s.T)∨(N=[x.G.Obj]∧C=[]∧x.PC=6∧¬(s.T.Marks|||bit x.G.Obj=s.T.Marks)∧(zp s w x).1.T={s.T with Marks:=s.T.Marks|||bit x.G.Obj})∨(N=[]∧C=[x.Obj]∧x.PC=8∧(zp s w x).1.T=wJ s.T x.Obj)):=by
 have hE:=zst hp G.E w
 have hwl:=G.E.wl
 have e0: ¬(s.Done=true∨w<1∨(s.Ws.length:Int)<w):=by rw [hd];rintro (e | e | e)<;>first | cases e | omega
 revert hE
 unfold yy
 rw [if_neg e0]
 have hi:(w-1).toNat<s.Ws.length:=by omega
 have hx:=List.getElem?_eq_getElem hi
 generalize s.Ws[(w-1).toNat]=x at hx
 rw [hx]
 dsimp only
 intro hE
 obtain ⟨a,b,el,es,hab,hba⟩:=zrD hx
 have ei:(((w-1).toNat:Nat):Int)+1=w:=by omega
 have hWX:=G.W _ x hx
 have hWO:=G.E.W _ x hx
 rw [ei] at hWX hWO
 have hfr:=ztl (s:=s) hWO
 have eH:(zp s w x).1.H=s.H:=by rw [hfr]
 have eMs:(zp s w x).1.Ms=s.Ms:=by rw [hfr]
 have X0:SX p nb s gh (wg x++((a++b).flatMap wg++s.Ms.flatMap uh)) k:=by
  refine G.X.perm ?_
  rw [←List.append_assoc]
  refine List.Perm.append_right _ ?_
  conv=>rhs;rw [el]
  exact u9.symm
 obtain ⟨gh',X',W',Fx,N,C,hN,hT⟩:=zDX hp hk hw X0 hWO hWX (fun o i=>G.E.H.get hp o i)
 have hoth: ∀(j:Nat) y,j≠(w-1).toNat→s.Ws[j]? =some y→WX p (zp s w x).1 gh' ((j:Int)+1) y∧zJ (zp s w x).1 y=zJ s y:=by
  intro j y hj hy
  have hjl:=(List.getElem?_eq_some_iff.1 hy).1
  exact WX.other hp (w:=(j:Int)+1) (by omega) X0 Fx (G.W j y hy) (G.E.W j y hy) (fun z hz=>List.mem_append_left _ (List.mem_flatMap.2 ⟨y,hba j y hj hy,hz⟩)) (fun e=>hj (by omega))
 have hmut: ∀(j:Nat) y,s.Ms[j]? =some y→MX p (zp s w x).1 gh' y∧zW (zp s w x).1 y=zW s y:=by
  intro j y hy
  exact MX.other hp X0 Fx (G.M j y hy) (G.E.X j y hy) (fun z hz=>List.mem_append_right _ (List.mem_flatMap.2 ⟨y,List.mem_of_getElem? hy,hz⟩))
 have hbag:List.Perm (vu p {(zp s w x).1 with Ws:=s.Ws.set (w-1).toNat (zp s w x).2} gh'++C) (N++vu p s gh):=by
  unfold vu
  have q2:(s.Ws.set (w-1).toNat (zp s w x).2).flatMap (zJ {(zp s w x).1 with Ws:=s.Ws.set (w-1).toNat (zp s w x).2})=(a++(zp s w x).2::b).flatMap (zJ (zp s w x).1):=by
   rw [es];exact xx (fun y _=>zbU rfl rfl)
  have q3:(a++b).flatMap (zJ (zp s w x).1)=(a++b).flatMap (zJ s):=xx (fun y hy=>by
   obtain ⟨j,hj,hjy⟩:=hab y hy
   exact (hoth j y hj hjy).2)
  have q4:(zp s w x).1.Ms.flatMap (zW {(zp s w x).1 with Ws:=s.Ws.set (w-1).toNat (zp s w x).2})=s.Ms.flatMap (zW s):=by
   rw [eMs]
   refine xx (fun y hy=> ?_)
   obtain ⟨j,hj⟩:=List.mem_iff_getElem?.1 hy
   exact (zfQ (s:=(zp s w x).1) rfl).trans (hmut j y hj).2
  show List.Perm (yo p (zp s w x).1 gh'++((s.Ws.set (w-1).toNat (zp s w x).2).flatMap (zJ {(zp s w x).1 with Ws:=s.Ws.set (w-1).toNat (zp s w x).2})++(zp s w x).1.Ms.flatMap (zW {(zp s w x).1 with Ws:=s.Ws.set (w-1).toNat (zp s w x).2}))++C) _
  rw [q2,q4]
  have r1:List.Perm (yo p (zp s w x).1 gh'++((a++(zp s w x).2::b).flatMap (zJ (zp s w x).1)++s.Ms.flatMap (zW s))++C) (((a++b).flatMap (zJ s)++s.Ms.flatMap (zW s))++(yo p (zp s w x).1 gh'++zJ (zp s w x).1 (zp s w x).2++C)):=by
   refine ((List.Perm.append_left _ (List.Perm.append_right _ u9)).append_right C).trans ?_
   rw [q3]
   generalize (a++b).flatMap (zJ s)=u
   generalize s.Ms.flatMap (zW s)=v
   generalize yo p (zp s w x).1 gh'=y
   generalize zJ (zp s w x).1 (zp s w x).2=z
   have:List.Perm (y++(z++(u++v))++C) ((u++v)++(y++z++C)):=by
    generalize u++v=q
    rw [List.append_assoc,List.append_assoc,List.append_assoc]
    refine (List.Perm.append_left _ (List.perm_append_comm_assoc _ _ _)).trans ?_
    exact (List.perm_append_comm_assoc _ _ _)
   rw [List.append_assoc z u v]
   exact this
  have r2:List.Perm (N++(yo p s gh++(s.Ws.flatMap (zJ s)++s.Ms.flatMap (zW s)))) (((a++b).flatMap (zJ s)++s.Ms.flatMap (zW s))++(N++(yo p s gh++zJ s x))):=by
   conv=>lhs;rw [el]
   refine (List.Perm.append_left _ (List.Perm.append_left _ (List.Perm.append_right _ u9))).trans ?_
   generalize (a++b).flatMap (zJ s)=u
   generalize s.Ms.flatMap (zW s)=v
   generalize yo p s gh=y
   generalize zJ s x=z
   rw [List.append_assoc z u v]
   generalize u++v=q
   refine (List.Perm.append_left _ ?_).trans (List.perm_append_comm_assoc _ _ _)
   rw [←List.append_assoc]
   exact List.perm_append_comm
  exact r1.trans ((List.Perm.append_left _ hN).trans r2.symm)
 have hFM:ziF s {(zp s w x).1 with Ws:=s.Ws.set (w-1).toNat (zp s w x).2}∧zae (vu p {(zp s w x).1 with Ws:=s.Ws.set (w-1).toNat (zp s w x).2} gh') (zp s w x).1.T:=by
  rcases hT with ⟨e1,e2,t1⟩ | ⟨e1,e2,t1,t2,t3⟩ | ⟨e1,e2,t1,t2⟩
  ·rw [e1,e2,List.append_nil,List.nil_append] at hbag
   refine ⟨.inl ⟨t1,congrArg (fun h:zt=>h.Objs.length) eH⟩,⟨?_,hbag.nodup_iff.2 G.B.nd,fun o=> ?_⟩⟩
   ·rw [t1];exact G.B.blk
   ·rw [t1,hbag.mem_iff];exact G.B.gr o
  ·have ho:=((hWX.p6 t1).1).ob
   rw [e1,e2,List.append_nil] at hbag
   refine ⟨.inr (.inl ⟨x.G.Obj,⟨ho.1,G.wob _ x hx t1⟩,(zbk ho).1 t2,t3,eH⟩),?_⟩
   rw [t3]
   exact G.B.more ho t2 hbag
  ·rw [e1,e2,List.nil_append] at hbag
   obtain ⟨b1,b2,b3,b4⟩:=G.B.less hbag
   refine ⟨.inr (.inr (.inl ⟨x.Obj,b3,?_,eH⟩)),by rw [t2];exact b1⟩
   show (zp s w x).1.T=_
   rw [t2];unfold wJ;rw [if_pos b3]
 obtain ⟨hFM,hB⟩:=hFM
 obtain ⟨t1,t2⟩:=G.tints hFM
 refine ⟨gh',⟨hE,?_,fun j y hy=> ?_,fun j y hy=> ?_,hB,t1,fun j y hy h6=> ?_,fun y hy=> ?_,t2,fun y hy=>show yu (zp s w x).1 y≠[] from FX.ne X0 Fx G.ne y hy⟩,hFM,x,rfl,N,C,hbag,hT⟩
 ·refine (X'.state hE.S rfl).perm ?_
  show List.Perm ((s.Ws.set (w-1).toNat (zp s w x).2).flatMap wg++(zp s w x).1.Ms.flatMap uh) _
  rw [es,eMs,←List.append_assoc]
  exact List.Perm.append_right _ u9
 ·have hy:(s.Ws.set (w-1).toNat (zp s w x).2)[j]? =some y:=hy
  by_cases hj:j=(w-1).toNat
  ·subst hj
   rw [List.getElem?_set_self hi] at hy
   injection hy with hy
   rw [←hy,ei]
   exact W'.state rfl rfl
  ·rw [List.getElem?_set_ne (fun e=>hj e.symm)] at hy
   exact (hoth j y hj hy).1.state rfl rfl
 ·have hy:(zp s w x).1.Ms[j]? =some y:=hy
  rw [eMs] at hy
  exact (hmut j y hy).1.state rfl rfl
 ·have hy:(s.Ws.set (w-1).toNat (zp s w x).2)[j]? =some y:=hy
  show y.G.Obj≤((zp s w x).1.H.Objs.length:Int)
  rw [eH]
  by_cases hj:j=(w-1).toNat
  ·subst hj
   rw [List.getElem?_set_self hi] at hy
   injection hy with hy
   rw [←hy] at h6 ⊢
   rcases zyh s w x h6 with ⟨h,e⟩ | ⟨h,e⟩
   ·rw [e];exact G.wob _ x hx h
   ·rw [e];exact zye (by omega) (fun l hl v hv=>((G.E.H.objs l hl).2 v hv).2) _ _
  ·rw [List.getElem?_set_ne (fun e=>hj e.symm)] at hy
   exact G.wob j y hy h6
 ·have hy:y∈(zp s w x).1.Ms:=hy
  show za9 ((zp s w x).1.H.Objs.length:Int) y
  rw [eMs] at hy
  rw [eH]
  exact G.buf y hy
theorem zxF (s:za) (m:Int) (x:zc):(zA s m x).1.H=s.H∨x.PC=23∨x.PC=30:=by
 refine un (motive:=fun r=>r.1.H=s.H∨x.PC=23∨x.PC=30) s m x ?_ ?_ ?_ ?_ ?_ ?_ ?_ ?_ ?_ ?_ ?_ ?_ ?_ ?_ ?_ ?_ ?_ ?_ ?_ ?_
 all_goals first
  | exact fun _=> .inl rfl
  | exact fun c=> .inr (.inl c)
  | exact fun c=> .inr (.inr c)
  | (intro c;unfold mu3;exact .inl (by dsimp only;rw [zbh]))
  | (intro c;unfold zjC;exact .inl (by dsimp only;rw [zbh]))
  | exact .inl rfl
theorem zyS {t:zo} {n:Int} (hn:1≤n∧n≤64) (nm: ¬z5 t.Marks n=true) (nb': ¬z5 t.Black n=true):X5 t n=⟨t.Marks|||bit n,t.Black|||bit n⟩:=by
 have ht1:wR {t with Marks:=t.Marks|||bit n} n=1:=(WV _ _).2 ⟨(wb _ hn _).2 (.inr rfl),nb'⟩
 unfold X5
 rw [zv2 hn nm nb']
 dsimp only
 rw [if_pos rfl]
 unfold wJ
 rw [if_pos ht1]
theorem zae.fresh {B B':List Int} {t:zo} {n:Int} (hn:1≤n∧n≤64) (nm: ¬z5 t.Marks n=true) (K:zae B t) (h:List.Perm B' B):zae B' ⟨t.Marks|||bit n,t.Black|||bit n⟩:=by
 refine ⟨fun o ho=> ?_,h.nodup_iff.2 K.nd,fun o=> ?_⟩
 ·rcases (wb _ hn o).1 ho with h | h
  ·exact (wb _ hn o).2 (.inl (K.blk o h))
  ·exact (wb _ hn o).2 (.inr h)
 ·rw [h.mem_iff,K.gr,WV,WV]
  dsimp only
  rw [wb _ hn,wb _ hn]
  constructor
  ·rintro ⟨a1,a2⟩
   refine ⟨.inl a1,fun e=>e.elim a2 (fun e=> ?_)⟩
   rw [e] at a1;exact nm a1
  ·rintro ⟨a1,a2⟩
   exact ⟨a1.resolve_right (fun e=>a2 (.inr e)),fun e=>a2 (.inl e)⟩
theorem FG.mut_tint {p:zb} (hp:zB p) {nb k:Nat} {s:za} {gh:Gh} (G:FG p nb k s gh) {m:Int} {x:zc} (hMX:MX p s gh x) (hBI:za9 (s.H.Objs.length:Int) x) {l:List zc} {N C B':List Int}
  (hbag:List.Perm (B'++C) (N++vu p s gh))
  (hT:(N=[]∧C=[]∧(zA s m x).1.T=s.T)∨(N=[x.G.Obj]∧C=[]∧(x.PC=3∨x.PC=37)∧¬(s.T.Marks|||bit x.G.Obj=s.T.Marks)∧(zA s m x).1.T={s.T with Marks:=s.T.Marks|||bit x.G.Obj})∨(N=[]∧C=[x.Obj]∧x.PC=38∧(zA s m x).1.T=wJ s.T x.Obj) ∨
   (N=[]∧C=[]∧x.PC=30∧Xz s.H s.P.Most=true∧(zA s m x).1.H=Z4 s.H∧(zA s m x).1.T=X5 s.T (wc (s.H.Objs.length+1)))) :
  ziF s {(zA s m x).1 with Ms:=l}∧zae B' (zA s m x).1.T:=by
 have hN0:=G.E.H.n
 have hM0:=hp.most
 have hn6:=hp.n
 have nm: ¬z5 s.T.Marks ((s.H.Objs.length:Int)+1)=true:=fun e=>by have:=G.mrk _ e;omega
 have nb': ¬z5 s.T.Black ((s.H.Objs.length:Int)+1)=true:=fun e=>nm (G.B.blk _ e)
 have hw:wc ((s.H.Objs.length:Int)+1)=(s.H.Objs.length:Int)+1:=xu (by omega) (by omega)
 rcases hT with ⟨e1,e2,t1⟩ | ⟨e1,e2,t1,t2,t3⟩ | ⟨e1,e2,t1,t2⟩ | ⟨e1,e2,t1,t2,t3,t4⟩
 ·rw [e1,e2,List.append_nil,List.nil_append] at hbag
  refine ⟨.inl ⟨t1,?_⟩,⟨?_,hbag.nodup_iff.2 G.B.nd,fun o=> ?_⟩⟩
  ·show (zA s m x).1.H.Objs.length=_
   rcases zsx s m x with h | ⟨h1,h2,_,_,h5⟩
   ·exact h.1
   ·exfalso
    rw [t1,hw,zyS (by omega) nm nb'] at h2
    have h3:=congrArg zo.Marks h2
    exact nm (by rw [h3];exact (wb _ (by omega) _).2 (.inr rfl))
  ·rw [t1];exact G.B.blk
  ·rw [t1,hbag.mem_iff];exact G.B.gr o
 ·have ho:1≤x.G.Obj∧x.G.Obj≤64:=by
   rcases t1 with h | h
   ·exact (hMX.p3 h).1.ob
   ·exact (hMX.p37 h).1.ob
  rw [e1,e2,List.append_nil] at hbag
  have eH:(zA s m x).1.H=s.H:=by
   rcases zxF s m x with h | h | h
   ·exact h
   ·omega
   ·omega
  refine ⟨.inr (.inl ⟨x.G.Obj,⟨ho.1,hBI.2.2 t1⟩,(zbk ho).1 t2,t3,eH⟩),?_⟩
  rw [t3]
  exact G.B.more ho t2 hbag
 ·rw [e1,e2,List.nil_append] at hbag
  obtain ⟨b1,b2,b3,b4⟩:=G.B.less hbag
  have eH:(zA s m x).1.H=s.H:=by
   rcases zxF s m x with h | h | h
   ·exact h
   ·omega
   ·omega
  refine ⟨.inr (.inr (.inl ⟨x.Obj,b3,?_,eH⟩)),by rw [t2];exact b1⟩
  show (zA s m x).1.T=_
  rw [t2];unfold wJ;rw [if_pos b3]
 ·rw [e1,e2,List.append_nil,List.nil_append] at hbag
  have hr:(s.H.Objs.length:Int)<s.P.Most:=by
   unfold Xz at t2
   simp only [Bool.and_eq_true,decide_eq_true_eq] at t2
   exact t2.1
  rw [G.E.S.P] at hr
  have hTT:(zA s m x).1.T=⟨s.T.Marks|||bit ((s.H.Objs.length:Int)+1),s.T.Black|||bit ((s.H.Objs.length:Int)+1)⟩:=by
   rw [t4,hw,zyS (by omega) nm nb']
  refine ⟨.inr (.inr (.inr ⟨t3,by omega,hTT⟩)),?_⟩
  rw [hTT]
  exact G.B.fresh (by omega) nm hbag
theorem FG.mutator {p:zb} (hp:zB p) {nb k:Nat} {s:za} {gh:Gh} (hk:k<4294960000) (G:FG p nb k s gh) {m:Int} (hm:1≤m∧m≤p.Mutators) (hd:s.Done=false): ∃gh',FG p nb (k+1) (yI s m) gh'∧ziF s (yI s m) ∧
  ∃x,s.Ms[(m-1).toNat]? =some x∧∃N C,List.Perm (vu p (yI s m) gh'++C) (N++vu p s gh)∧((N=[]∧C=[]∧(zA s m x).1.T=s.T)∨(N=[x.G.Obj]∧C=[]∧(x.PC=3∨x.PC=37)∧¬(s.T.Marks|||bit x.G.Obj=s.T.Marks)∧(zA s m x).1.T={s.T with Marks:=s.T.Marks|||bit x.G.Obj})∨(N=[]∧C=[x.Obj]∧x.PC=38∧(zA s m x).1.T=wJ s.T x.Obj) ∨
   (N=[]∧C=[]∧x.PC=30∧Xz s.H s.P.Most=true∧(zA s m x).1.H=Z4 s.H∧(zA s m x).1.T=X5 s.T (wc (s.H.Objs.length+1)))):=by
 have hE:=zwf hp G.E m
 have hml:=G.E.ml
 have hwl:=G.E.wl
 have hN0:=G.E.H.n
 have hM0:=hp.most
 have hn6:=hp.n
 have e0: ¬(s.Done=true∨m<1∨(s.Ms.length:Int)<m):=by rw [hd];rintro (e | e | e)<;>first | cases e | omega
 revert hE
 unfold yI
 rw [if_neg e0]
 have hi:(m-1).toNat<s.Ms.length:=by omega
 have hx:=List.getElem?_eq_getElem hi
 generalize s.Ms[(m-1).toNat]=x at hx
 rw [hx]
 dsimp only
 intro hE
 obtain ⟨a,b,el,es,hab,hba⟩:=zrD hx
 have ei:(((m-1).toNat:Nat):Int)+1=m:=by omega
 have hMX:=G.M _ x hx
 have hXO:=G.E.X _ x hx
 rw [ei] at hXO
 have hBI:=G.buf x (List.mem_of_getElem? hx)
 have hfr:=zwa s m x
 have eWs:(zA s m x).1.Ws=s.Ws:=by rw [hfr]
 have X0:SX p nb s gh (uh x++((a++b).flatMap uh++s.Ws.flatMap wg)) k:=by
  refine G.X.perm ?_
  rw [←List.append_assoc]
  refine List.Perm.trans (List.Perm.append_right _ ?_) List.perm_append_comm
  conv=>rhs;rw [el]
  exact u9.symm
 obtain ⟨gh',X',M',Fx,N,C,hN,hT⟩:=zF3 hp hk X0 hXO hMX (ztS hp m) (fun o i=>G.E.H.get hp o i)
 have hoth: ∀(j:Nat) y,j≠(m-1).toNat→s.Ms[j]? =some y→MX p (zA s m x).1 gh' y∧zW (zA s m x).1 y=zW s y:=by
  intro j y hj hy
  exact MX.other hp X0 Fx (G.M j y hy) (G.E.X j y hy) (fun z hz=>List.mem_append_left _ (List.mem_flatMap.2 ⟨y,hba j y hj hy,hz⟩))
 have hwrk: ∀(j:Nat) y,s.Ws[j]? =some y→WX p (zA s m x).1 gh' ((j:Int)+1) y∧zJ (zA s m x).1 y=zJ s y:=by
  intro j y hy
  have hjl:=(List.getElem?_eq_some_iff.1 hy).1
  exact WX.other hp (w:=(j:Int)+1) (by omega) X0 Fx (G.W j y hy) (G.E.W j y hy) (fun z hz=>List.mem_append_right _ (List.mem_flatMap.2 ⟨y,List.mem_of_getElem? hy,hz⟩)) (fun e=>e)
 have hbag:List.Perm (vu p {(zA s m x).1 with Ms:=s.Ms.set (m-1).toNat (zA s m x).2} gh'++C) (N++vu p s gh):=by
  unfold vu
  have q2:(s.Ms.set (m-1).toNat (zA s m x).2).flatMap (zW {(zA s m x).1 with Ms:=s.Ms.set (m-1).toNat (zA s m x).2})=(a++(zA s m x).2::b).flatMap (zW (zA s m x).1):=by
   rw [es];exact xx (fun y _=>zfQ rfl)
  have q3:(a++b).flatMap (zW (zA s m x).1)=(a++b).flatMap (zW s):=xx (fun y hy=>by
   obtain ⟨j,hj,hjy⟩:=hab y hy
   exact (hoth j y hj hjy).2)
  have q4:(zA s m x).1.Ws.flatMap (zJ {(zA s m x).1 with Ms:=s.Ms.set (m-1).toNat (zA s m x).2})=s.Ws.flatMap (zJ s):=by
   rw [eWs]
   refine xx (fun y hy=> ?_)
   obtain ⟨j,hj⟩:=List.mem_iff_getElem?.1 hy
   exact (zbU (s:=(zA s m x).1) rfl rfl).trans (hwrk j y hj).2
  show List.Perm (yo p (zA s m x).1 gh'++((zA s m x).1.Ws.flatMap (zJ {(zA s m x).1 with Ms:=s.Ms.set (m-1).toNat (zA s m x).2})++(s.Ms.set (m-1).toNat (zA s m x).2).flatMap (zW {(zA s m x).1 with Ms:=s.Ms.set (m-1).toNat (zA s m x).2}))++C) _
  rw [q2,q4]
  have r1:List.Perm (yo p (zA s m x).1 gh'++(s.Ws.flatMap (zJ s)++(a++(zA s m x).2::b).flatMap (zW (zA s m x).1))++C) ((s.Ws.flatMap (zJ s)++(a++b).flatMap (zW s))++(yo p (zA s m x).1 gh'++zW (zA s m x).1 (zA s m x).2++C)):=by
   refine ((List.Perm.append_left _ (List.Perm.append_left _ u9)).append_right C).trans ?_
   rw [q3]
   generalize (a++b).flatMap (zW s)=u
   generalize s.Ws.flatMap (zJ s)=v
   generalize yo p (zA s m x).1 gh'=y
   generalize zW (zA s m x).1 (zA s m x).2=z
   refine ((List.Perm.append_left y (List.perm_append_comm_assoc v z u)).append_right C).trans ?_
   generalize v++u=q
   rw [List.append_assoc,List.append_assoc,List.append_assoc]
   refine (List.Perm.append_left _ (List.perm_append_comm_assoc _ _ _)).trans ?_
   exact (List.perm_append_comm_assoc _ _ _)
  have r2:List.Perm (N++(yo p s gh++(s.Ws.flatMap (zJ s)++s.Ms.flatMap (zW s)))) ((s.Ws.flatMap (zJ s)++(a++b).flatMap (zW s))++(N++(yo p s gh++zW s x))):=by
   conv=>lhs;rw [el]
   refine (List.Perm.append_left _ (List.Perm.append_left _ (List.Perm.append_left _ u9))).trans ?_
   generalize (a++b).flatMap (zW s)=u
   generalize s.Ws.flatMap (zJ s)=v
   generalize yo p s gh=y
   generalize zW s x=z
   refine (List.Perm.append_left N (List.Perm.append_left y (List.perm_append_comm_assoc v z u))).trans ?_
   generalize v++u=q
   refine (List.Perm.append_left _ ?_).trans (List.perm_append_comm_assoc _ _ _)
   rw [←List.append_assoc]
   exact List.perm_append_comm
  exact r1.trans ((List.Perm.append_left _ hN).trans r2.symm)
 have hlen:(zA s m x).1.H.Objs.length=s.H.Objs.length∨(zA s m x).1.H=Z4 s.H:=by
  rcases zsx s m x with h | h
  ·exact .inl h.1
  ·exact .inr h.1
 have hFM:=G.mut_tint hp (m:=m) (l:=s.Ms.set (m-1).toNat (zA s m x).2) hMX hBI hbag hT
 obtain ⟨hFM,hB⟩:=hFM
 obtain ⟨t1,t2⟩:=G.tints hFM
 have hN1:(s.H.Objs.length:Int)≤((zA s m x).1.H.Objs.length:Int):=by
  rcases hlen with h | h
  ·omega
  ·rw [h,zo3];omega
 have B':=zvN (s:=s) hXO (n:=(s.H.Objs.length:Int)) (by omega) (fun l hl v hv=>((G.E.H.objs l hl).2 v hv).2) hBI
 refine ⟨gh',⟨hE,?_,fun j y hy=> ?_,fun j y hy=> ?_,hB,t1,fun j y hy h6=> ?_,fun y hy=> ?_,t2,fun y hy=>show yu (zA s m x).1 y≠[] from FX.ne X0 Fx G.ne y hy⟩,hFM,x,rfl,N,C,hbag,hT⟩
 ·refine (X'.state hE.S rfl).perm ?_
  show List.Perm ((zA s m x).1.Ws.flatMap wg++(s.Ms.set (m-1).toNat (zA s m x).2).flatMap uh) _
  rw [es,eWs,←List.append_assoc]
  exact List.perm_append_comm.trans (List.Perm.append_right _ u9)
 ·have hy:(zA s m x).1.Ws[j]? =some y:=hy
  rw [eWs] at hy
  exact (hwrk j y hy).1.state rfl rfl
 ·have hy:(s.Ms.set (m-1).toNat (zA s m x).2)[j]? =some y:=hy
  by_cases hj:j=(m-1).toNat
  ·subst hj
   rw [List.getElem?_set_self hi] at hy
   injection hy with hy
   rw [←hy]
   exact M'.state rfl rfl
  ·rw [List.getElem?_set_ne (fun e=>hj e.symm)] at hy
   exact (hoth j y hj hy).1.state rfl rfl
 ·have hy:(zA s m x).1.Ws[j]? =some y:=hy
  rw [eWs] at hy
  have:=G.wob j y hy h6
  show y.G.Obj≤((zA s m x).1.H.Objs.length:Int)
  omega
 ·have up: ∀ {z:zc},za9 (s.H.Objs.length:Int) z→za9 ((zA s m x).1.H.Objs.length:Int) z:=fun ⟨a,b,c⟩=>⟨fun v hv=>by have:=a v hv;omega,by omega,fun e=>by have:=c e;omega⟩
  rcases List.mem_or_eq_of_mem_set (show y∈s.Ms.set (m-1).toNat (zA s m x).2 from hy) with h | rfl
  ·exact up (G.buf y h)
  ·exact up B'
theorem zFk {p:zb} (h:zB p):FG p (zQ p+1) 0 (yv p) (gh0 p):=by
 have G:=zFg h
 have hn:=h.n
 have hms: ∀x∈(yv p).Ms,∃r,x=vJ r:=fun x hx=>by
  obtain ⟨r,_,e⟩:=List.mem_map.1 (show x∈p.Regs.map vJ from hx)
  exact ⟨r,e.symm⟩
 have own:(yv p).Ms.flatMap uh=[]:=zaP (fun x hx=>by
  obtain ⟨r,rfl⟩:=hms x hx
  exact vz ⟨by show (0:Int)≠3;decide,by show (0:Int)≠33;decide,by show (0:Int)≠34;decide,by show (0:Int)≠37;decide⟩)
 have hold:(yv p).Ms.flatMap (zW (yv p))=[]:=zaP (fun x hx=>by
  obtain ⟨r,rfl⟩:=hms x hx
  unfold zW
  rw [ux ⟨by show (0:Int)≠3;decide,by show (0:Int)≠33;decide,by show (0:Int)≠36;decide,by show (0:Int)≠37;decide,by show (0:Int)≠38;decide⟩];rfl)
 refine ⟨G.E,by rw [own,List.append_nil];exact G.X,G.W,fun i x hx=> ?_,?_,fun o ho=> ?_,fun i x hx h6=> ?_,fun x hx=> ?_,fun o h1 h2=> ?_,zFj h⟩
 ·obtain ⟨r,rfl⟩:=hms x (List.mem_of_getElem? hx)
  exact MX.plain ⟨by show (0:Int)≠3;decide,by show (0:Int)≠32;decide,by show (0:Int)≠34;decide,by show (0:Int)≠37;decide⟩ (fun _=>rfl) (fun v hv=>by cases hv)
   ⟨fun e=>absurd e (by show ¬(0:Int)=21;decide),fun e=>absurd e (by show ¬((0:Int)=22∨(((0:Int)=1∨(0:Int)=3)∧(0:Int)=22));decide)⟩
 ·have e:vu p (yv p) (gh0 p)=zpg p (yv p) (gh0 p):=by unfold vu zpg;rw [hold,List.append_nil]
  rw [e];exact G.B
 ·have ho:z5 (Z8 p) o=true:=ho
  show o≤(p.H.Objs.length:Int)
  refine Int.not_lt.1 fun hlt=> ?_
  obtain ⟨a,b,_⟩:=(xK _ _).1 ho
  have b2: ¬z5 (w8 (p.H.Objs.length:Int)) o=true:=fun e=>by
   have:=(zof (n:=p.H.Objs.length) (by omega) o).1 e
   omega
  have b3:=(zcz _ _ o).2 ⟨ho,(zr1 _ (by omega)).2 b2⟩
  rw [zlY h] at b3
  exact WN o b3
 ·obtain ⟨j,_,e⟩:=List.mem_map.1 (show x∈(List.range p.Workers.toNat).map (uu p) from List.mem_of_getElem? hx)
  rw [←e] at h6
  exact absurd h6 (by show ¬(0:Int)=6;decide)
 ·obtain ⟨r,rfl⟩:=hms x hx
  exact ⟨fun v hv=>(by cases hv),(by show (0:Int)≤(p.H.Objs.length:Int);omega),fun e=>absurd e (by show ¬((0:Int)=3∨(0:Int)=37);decide)⟩
 ·have:o≤(p.H.Objs.length:Int):=h2
  omega
theorem FG.grey {p:zb} {nb k:Nat} {s:za} {gh:Gh} (G:FG p nb k s gh) {o:Int} (h:o∈vu p s gh):wR s.T o=1:=(G.B.gr o).1 h
theorem zEY {p:zb} {s:za} {gh:Gh} {i:Nat} {x:zh} (hx:s.Ws[i]? =some x) {o:Int} (h:o∈zJ s x):o∈vu p s gh :=
 List.mem_append_right _ (List.mem_append_left _ (List.mem_flatMap.2 ⟨x,List.mem_of_getElem? hx,h⟩))
theorem zEZ {p:zb} {s:za} {gh:Gh} {i:Nat} {x:zc} (hx:s.Ms[i]? =some x) {o:Int} (h:o∈zW s x):o∈vu p s gh :=
 List.mem_append_right _ (List.mem_append_right _ (List.mem_flatMap.2 ⟨x,List.mem_of_getElem? hx,h⟩))
end
end Go.Pe.G
namespace Go.Pe.G
open Go.Pe
noncomputable section
theorem zaM {l:List Int} (h:l.length<4294967296):yz l=some (uk l,()):=by
 rw [zwQ,zv7 h];rfl
theorem znw (g:zu) (h:1≤g.Obj): ∃v,uZ g=some (v,())∧zd3 [v]=some (yh g,()):=by
 rw [zsV,zjR]
 simp only [zj]
 have z:zd3 [0]=some ([],()):=by rw [zyv];rfl
 unfold yh
 by_cases c1:g.Out=0
 ·rw [if_pos c1]
  by_cases c2:3≤g.PC
  ·rw [if_pos c2]
   by_cases c3:g.PC≤7
   ·rw [if_pos c3,if_pos ⟨c1,c2,c3⟩]
    refine ⟨g.Obj,rfl,?_⟩
    rw [zyv]
    unfold zt3
    have:decide (g.Obj=0)=false:=decide_eq_false (by omega)
    simp [this]
   ·rw [if_neg c3,if_neg (fun e=>c3 e.2.2)];exact ⟨0,rfl,z⟩
  ·rw [if_neg c2,if_neg (fun e=>c2 e.2.1)];exact ⟨0,rfl,z⟩
 ·rw [if_neg c1,if_neg (fun e=>c1 e.1)];exact ⟨0,rfl,z⟩
theorem zDI {m:List (BitVec 64)} {p:zb} (hc:p.Cap<1000) (w:Int) (o:zd) {l:List Int} (hl:l.length<4000000) :
  ((yU p w).bind fun y5=>(xS m y5.1 p.Cap o).bind fun y6=>(yc (l++y6.1)).bind fun l7=>(yz l7).bind fun y8=>some (y8.1,()))=some (uk (l++XT m (zI p w) p.Cap o),()):=by
 have hi:=zBm m (zI p w) p.Cap o
 rw [U2,Option.bind_some,zzf hc,Option.bind_some,yp (by simp;omega),Option.bind_some,zaM (by simp;omega)];rfl
theorem zCr {p:zb} (h:zB p) {s:za} (hP:s.P=p) {w:Int} {t c:Nat} {l:List Int} {d:zd} (K:PK p s.M w t l c d):zhj s w d=some (ZJ s.M d,()):=by
 have hc:=h.cap
 rw [zrI,hP]
 unfold ZJ
 by_cases c3:d.PC=3
 ·rw [decide_eq_true c3,cond_true,yt]
  by_cases ct:d.T=d.B-1#64
  ·rw [if_pos ct,if_neg (fun e=>e.2 ct),zj,if_neg (show ¬d.PC=6 by omega),if_neg (show ¬d.PC=6 by omega)]
  ·rw [if_neg ct,if_pos ⟨c3,ct⟩,U2,Option.bind_some,zj,if_neg ?_]
   ·obtain ⟨b,e⟩:=zuD s.M (w64 ((w64 (zI p w+2))+(((d.B-1#64)%(BitVec.ofInt 64 p.Cap)).toInt))) 0#64 0#64
    have ea:w64 ((w64 (zI p w+2))+(((d.B-1#64)%(BitVec.ofInt 64 p.Cap)).toInt))=YC d (d.B-1#64):=by
     unfold YC v9
     rw [K.base,K.size,if_neg (by omega),xh]
    dsimp only
    rw [e,ea];rfl
   ·have hx:p.Cap=1∨p.Cap=2∨p.Cap=3:=by omega
    rcases hx with e | e | e<;>rw [e]<;>decide
 ·rw [decide_eq_false c3,cond_false,zj,if_neg (show ¬(d.PC=3∧d.T≠d.B-1#64) from fun e=>c3 e.1)]
  by_cases c6:d.PC=6
  ·rw [if_pos c6,if_pos c6]
  ·rw [if_neg c6,if_neg c6]
theorem zve {p:zb} {nb k:Nat} {s:za} {gh:Gh} (G:FG p nb k s gh) {b:Int} (h:1≤b∧b<nb):idx s.Bins b=some (yu s b)∧(yu s b).length<1000000:=by
 have hl:=G.E.S.bins
 have hb:=List.getElem?_eq_getElem (show b.toNat<s.Bins.length by omega)
 have hm:=List.getElem_mem (show b.toNat<s.Bins.length by omega)
 unfold yu
 rw [wY (by omega),hb]
 exact ⟨rfl,G.E.small.bin _ hm⟩
theorem zrm {p:zb} (h:zB p) {nb k:Nat} {s:za} {gh:Gh} (G:FG p nb k s gh) {i:Nat} {x:zh} (hx:s.Ws[i]? =some x):Za s ((i:Int)+1)=some (uk (zJ s x++gh.D ((i:Int)+1)),()):=by
 have hil:=(List.getElem?_eq_some_iff.1 hx).1
 have hwl:=G.E.wl
 have hwk:=h.wk
 have hP:=G.E.S.P
 have hcap:=h.cap
 have W:=G.W i x hx
 have O:=G.E.W i x hx
 have hw:1≤(i:Int)+1∧(i:Int)+1≤p.Workers:=by omega
 have D:=G.X.D _ hw.1 hw.2
 have hb:=G.E.small.w x (List.mem_of_getElem? hx)
 have e1:w64 ((i:Int)+1-1)=(i:Int):=by rw [zS (by omega) (by omega)];omega
 have none0:XT s.M (zI p ((i:Int)+1)) p.Cap (zd.mk 0 0 0 0 0#64 0#64 0 0)=gh.D ((i:Int)+1)∨x.PC=0:=by
  by_cases p0:x.PC=0
  ·exact .inr p0
  ·refine .inl (zny h hw (by have:=W.c0 p0;rw [this] at D;exact D) (fun e=>absurd e.1 (by show ¬(0:Int)=2;decide)))
 rw [zjf,zj,if_neg (by omega),zj,if_neg (by omega),e1,xp hx,Option.bind_some,Xm (by omega),Option.bind_some,hP]
 generalize hwi:(i:Int)+1=w at *
 unfold zJ Ut
 have hpc:=O.pc
 have cases10:x.PC=0∨x.PC=1∨x.PC=2∨x.PC=3∨x.PC=4∨x.PC=5∨x.PC=6∨x.PC=7∨x.PC=8∨x.PC=9:=by omega
 have fin: ∀ {l:List Int} (o:zd),l.length<4000000→XT s.M (zI p w) p.Cap o=gh.D w→((yU p w).bind fun y5=>(xS s.M y5.1 p.Cap o).bind fun y6=>(yc (l++y6.1)).bind fun l7=>(yz l7).bind fun y8=>some (y8.1,()))=some (uk (l++gh.D w),()):=fun o hl e=>by
  rw [zDI (by omega) w o hl,e]
 rcases cases10 with c | c | c | c | c | c | c | c | c | c
 all_goals simp only [c,Int.reduceEq,decide_true,decide_false,cond_true,cond_false,if_true,if_false,or_true,or_false,true_or,false_or]
 ·have K:=W.p0 c
  have hpl:(ZJ s.M x.D).length≤1:=by
   unfold ZJ
   split
   ·simp
   ·split<;>simp
  rw [zCr h hP K,Option.bind_some,yp (by simp;omega),Option.bind_some]
  exact fin _ (by simp;omega) (zB6 h hw D K)
 ·rw [List.append_nil];exact fin _ (by omega) (none0.resolve_right (by omega))
 ·rw [List.append_nil];exact fin _ (by omega) (none0.resolve_right (by omega))
 ·obtain ⟨b1,b2⟩:=zve G (O.b3 c)
  rw [b1,Option.bind_some,yp (by simp;omega),Option.bind_some]
  exact fin _ (by simp;omega) (none0.resolve_right (by omega))
 ·rw [List.append_nil];exact fin _ (by omega) (none0.resolve_right (by omega))
 ·rw [yp (by simp;omega),Option.bind_some]
  exact fin _ (by simp;omega) (none0.resolve_right (by omega))
 ·obtain ⟨g1,g2,g3,g4⟩:=W.p6 c
  have hob:=g1.ob
  obtain ⟨v,v1,v2⟩:=znw x.G hob.1
  have hhl:(yh x.G).length≤1:=by unfold yh;split<;>simp
  rw [yp (by simp;omega),Option.bind_some,v1,Option.bind_some]
  dsimp only
  rw [v2,Option.bind_some,yp (by simp;omega),Option.bind_some]
  have ea:x.Batch++x.Obj::yh x.G=x.Batch++[x.Obj]++yh x.G:=by simp
  rw [ea,zj]
  by_cases g3':x.G.PC=3
  ·rw [if_pos g3']
   have:=(g1.d3 g3' g4).2.2.kind
   exact fin _ (by simp;omega) (zny h hw (by have:=W.c0 (by omega);rw [this] at D;exact D) (fun e=>by have:=e.1;omega))
  ·rw [if_neg g3']
   exact fin _ (by simp;omega) (none0.resolve_right (by omega))
 ·rw [List.append_nil];exact fin _ (by omega) (none0.resolve_right (by omega))
 ·rw [yp (by simp;omega),Option.bind_some]
  exact fin _ (by simp;omega) (none0.resolve_right (by omega))
 ·rw [List.append_nil];exact fin _ (by omega) (none0.resolve_right (by omega))
theorem zpp {p:zb} (h:zB p) {nb k:Nat} {s:za} {gh:Gh} (G:FG p nb k s gh) {i:Nat} {x:zc} (hx:s.Ms[i]? =some x):XJ s ((i:Int)+1)=some (uk (zW s x),()):=by
 have hil:=(List.getElem?_eq_some_iff.1 hx).1
 have hml:=G.E.ml
 have hmt:=h.mt
 have W:=G.M i x hx
 have O:=G.E.X i x hx
 have hb:=(G.E.small.mu x (List.mem_of_getElem? hx)).2.2
 have e1:w64 ((i:Int)+1-1)=(i:Int):=by rw [zS (by omega) (by omega)];omega
 have hhl:(yh x.G).length≤1:=by unfold yh;split<;>simp
 rw [zrc,zj,if_neg (by omega),zj,if_neg (by omega),e1,xp hx,Option.bind_some,Xm (by omega),Option.bind_some]
 unfold zW zbA
 have nog:x.PC≠3∧x.PC≠37→ud x=some (false,()):=fun e=>by rw [zd1,decide_eq_false e.1,decide_eq_false e.2];rfl
 have ysg:x.PC=3∨x.PC=37→ud x=some (true,()):=fun e=>by
  rw [zd1]
  by_cases c:x.PC=3
  ·rw [decide_eq_true c];rfl
  ·rw [decide_eq_false c,decide_eq_true (e.resolve_left c)];rfl
 by_cases c33:x.PC=33
 ·obtain ⟨b1,b2⟩:=zve G (O.b33 c33)
  have h36: ¬(36:Int)≤x.PC:=by omega
  rw [decide_eq_true c33,cond_true,b1,Option.bind_some,yp (by simp;omega),Option.bind_some,decide_eq_false h36,cond_false,nog (by omega),Option.bind_some,cond_false,zaM (by simp;omega),if_pos c33];rfl
 rw [decide_eq_false c33,cond_false,if_neg c33]
 by_cases c3:x.PC=3
 ·obtain ⟨v,v1,v2⟩:=znw x.G (W.p3 c3).1.ob.1
  have h36: ¬(36:Int)≤x.PC:=by omega
  rw [decide_eq_false h36,cond_false,ysg (.inl c3),Option.bind_some,cond_true,v1,Option.bind_some]
  dsimp only
  rw [v2,Option.bind_some,yp (by simp;omega),Option.bind_some,zaM (by simp;omega),if_neg (by omega),if_neg (by omega),if_pos c3];rfl
 by_cases c36:36≤x.PC∧x.PC≤38
 ·rw [decide_eq_true c36.1,cond_true,decide_eq_true c36.2,cond_true,yp (by simp;omega),Option.bind_some]
  by_cases c37:x.PC=37
  ·obtain ⟨v,v1,v2⟩:=znw x.G (W.p37 c37).1.ob.1
   rw [ysg (.inr c37),Option.bind_some,cond_true,v1,Option.bind_some]
   dsimp only
   rw [v2,Option.bind_some,yp (by simp;omega),Option.bind_some,zaM (by simp;omega),if_neg (by omega),if_pos c37]
   have ea:x.Batch++x.Obj::yh x.G=x.Batch++[x.Obj]++yh x.G:=by simp
   rw [ea];rfl
  ·rw [nog ⟨c3,c37⟩,Option.bind_some,cond_false,zaM (by simp;omega),if_pos (by omega)];rfl
 ·rw [if_neg (by omega),if_neg (by omega),if_neg c3,List.append_nil]
  by_cases h36:36≤x.PC
  ·have h38: ¬x.PC≤38:=fun e=>c36 ⟨h36,e⟩
   rw [decide_eq_true h36,cond_true,decide_eq_false h38,cond_false,nog (by omega),Option.bind_some,cond_false,zaM (show x.Batch.length<4294967296 by omega)];rfl
  ·rw [decide_eq_false h36,cond_false,nog (by omega),Option.bind_some,cond_false,zaM (show x.Batch.length<4294967296 by omega)];rfl
end
end Go.Pe.G
namespace Go.Pe.G
open Go.Pe
noncomputable section
def owG (g:zu):Int:=if g.Out=0∧(g.PC=1∨g.PC=2) then 1 else 0
def owW (x:zh):Int:=if x.PC=9 then 1 else if x.PC=6 then owG x.G else 0
def owX (x:zc):Int:=if x.PC=39 then 1 else if x.PC=3∨x.PC=37 then owG x.G else 0
theorem zCb (g:zu):0≤owG g∧owG g≤1:=by unfold owG;split<;>decide
theorem zxi (x:zh):0≤owW x∧owW x≤1:=by
 unfold owW
 split
 ·decide
 split
 ·exact zCb _
 ·decide
theorem zyA (x:zc):0≤owX x∧owX x≤1:=by
 unfold owX
 split
 ·decide
 split
 ·exact zCb _
 ·decide
theorem Z5 {g:zu} (h:g.Out≠0∨(g.PC≠1∧g.PC≠2)):owG g=0:=by unfold owG;rw [if_neg (by omega)]
theorem zsN {g:zu} (h:g.Out=0) (h2:g.PC=1∨g.PC=2):owG g=1:=by unfold owG;rw [if_pos ⟨h,h2⟩]
theorem zBP (t:zo) (o:Int):((vv t o).2=false∧(vv t o).1=t)∨((vv t o).2=true∧¬(t.Marks|||bit o=t.Marks)∧(vv t o).1={t with Marks:=t.Marks|||bit o}):=by
 unfold vv
 split
 ·exact .inl ⟨rfl,rfl⟩
 split
 ·rename_i h _;exact .inr ⟨rfl,h,rfl⟩
 ·exact .inl ⟨rfl,rfl⟩
theorem zv6 {p:zb} {s:za} {gh:Gh} {g:zu} (G:GX p s gh g) (g0:g.Out=0) (hw:0≤s.Work∧s.Work≤4294970000) :
  ((zx s g).1.T=s.T∧(zx s g).1.Work=s.Work+owG (zx s g).2-owG g) ∨
  (¬(s.T.Marks|||bit g.Obj=s.T.Marks)∧(zx s g).1.T={s.T with Marks:=s.T.Marks|||bit g.Obj}∧(zx s g).1.Work=s.Work+owG (zx s g).2-owG g+1):=by
 have hpc:=G.pc
 have hmd:=G.md
 unfold zx
 rw [if_neg (by omega)]
 by_cases c7:g.PC=7
 ·rw [if_pos c7]
  unfold zco;dsimp only
  left;refine ⟨rfl,?_⟩
  rw [Z5 (g:=g) (by omega),Z5 (by split<;>(dsimp only;omega))];omega
 rw [if_neg c7]
 by_cases c6:g.PC=6
 ·rw [if_pos c6]
  left;refine ⟨rfl,?_⟩
  rw [Z5 (g:=g) (by omega),Z5 (by show _∨((7:Int)≠1∧(7:Int)≠2);omega)]
  show s.Work=_;omega
 rw [if_neg c6]
 by_cases c5:g.PC=5
 ·rw [if_pos c5]
  unfold zls zhx;dsimp only
  left;refine ⟨rfl,?_⟩
  rw [Z5 (g:=g) (by omega),Z5 (by (repeat' split)<;>(dsimp only;omega))];omega
 rw [if_neg c5]
 by_cases c4:g.PC=4
 ·rw [if_pos c4]
  left;refine ⟨rfl,?_⟩
  rw [Z5 (g:=g) (by omega),Z5 (by show _∨((5:Int)≠1∧(5:Int)≠2);omega)]
  show s.Work=_;omega
 rw [if_neg c4]
 by_cases c3:g.PC=3
 ·rw [if_pos c3]
  unfold zlB zhx;dsimp only
  left;refine ⟨rfl,?_⟩
  rw [Z5 (g:=g) (by omega),Z5 (by (repeat' split)<;>(dsimp only;omega))];omega
 rw [if_neg c3]
 by_cases c2:g.PC=2
 ·rw [if_pos c2]
  left;refine ⟨rfl,?_⟩
  rw [zsN g0 (.inr c2),Z5 (by show (1:Int)≠0∨_;omega)]
  show wc (s.Work-1)=_
  rw [xu (by omega) (by omega)];omega
 rw [if_neg c2]
 by_cases c1:g.PC=1
 ·rw [if_pos c1]
  unfold zlw;dsimp only
  rw [zsN g0 (.inl c1)]
  rcases zBP s.T g.Obj with ⟨a,b⟩ | ⟨a,b,c⟩
  ·left
   refine ⟨b,?_⟩
   rw [if_pos a,zsN (by dsimp only;exact g0) (.inr rfl)];omega
  ·right
   refine ⟨b,c,?_⟩
   rw [if_neg (by rw [a];decide)]
   unfold zhx
   rw [Z5 (by (repeat' split)<;>(dsimp only;omega))];omega
 rw [if_neg c1]
 left;refine ⟨rfl,?_⟩
 rw [Z5 (g:=g) (by omega),zsN (by dsimp only;exact g0) (.inl rfl)]
 show wc (s.Work+1)=_
 rw [xu (by omega) (by omega)];omega
theorem zn8 {t:zo} {o:Int} (h:wR t o=1):wJ t o≠t:=by
 have hb:=(WV t o).1 h
 have hr:=zio h
 unfold wJ
 rw [if_pos h]
 intro e
 have e:=congrArg zo.Black e
 exact hb.2 (by rw [←e];exact (wb _ hr o).2 (.inr rfl))
theorem zdm {t:zo} {o:Int} (h: ¬(t.Marks|||bit o=t.Marks)):({t with Marks:=t.Marks|||bit o}:zo)≠t:=fun e=>h (congrArg zo.Marks e)
theorem zBw {p:zb} {nb:Nat} {s:za} {gh:Gh} {w:Int} {x:zh} (W:WX p s gh w x) (O:WOk p nb w x) (hw:0≤s.Work∧s.Work≤4294970000) (h8:x.PC=8→wR s.T x.Obj=1) {N C:List Int}
  (hT:(N=[]∧C=[]∧(zp s w x).1.T=s.T)∨(N=[x.G.Obj]∧C=[]∧x.PC=6∧¬(s.T.Marks|||bit x.G.Obj=s.T.Marks)∧(zp s w x).1.T={s.T with Marks:=s.T.Marks|||bit x.G.Obj})∨(N=[]∧C=[x.Obj]∧x.PC=8∧(zp s w x).1.T=wJ s.T x.Obj)) :
  (zp s w x).1.Work=s.Work+owW (zp s w x).2-owW x+(N.length:Int)-(C.length:Int):=by
 have hpc:=O.pc
 revert hT
 have ob: ∀y:zh,owW (V5 s.P w y)=0:=fun y=>rfl
 have ol: ∀y:zh,owW (Yn s.P w y)=0:=fun y=>by unfold Yn;split<;>rfl
 have quiet: ∀ {t:za} {y:zh},(N=[]∧C=[]∧t.T=s.T)∨(N=[x.G.Obj]∧C=[]∧x.PC=6∧¬(s.T.Marks|||bit x.G.Obj=s.T.Marks)∧t.T={s.T with Marks:=s.T.Marks|||bit x.G.Obj})∨(N=[]∧C=[x.Obj]∧x.PC=8∧t.T=wJ s.T x.Obj) →
   x.PC≠6→x.PC≠8→t.Work=s.Work+owW y-owW x→t.Work=s.Work+owW y-owW x+(N.length:Int)-(C.length:Int):=by
  rintro t y (⟨e1,e2,_⟩ | ⟨_,_,e,_⟩ | ⟨_,_,e,_⟩) h1 h2 h
  ·rw [e1,e2];simp only [List.length_nil];omega
  ·omega
  ·omega
 have o0:x.PC≠9→x.PC≠6→owW x=0:=fun h1 h2=>by unfold owW;rw [if_neg h1,if_neg h2]
 unfold zp
 split
 ·rename_i c
  intro hT
  refine quiet hT (by omega) (by omega) ?_
  rw [o0 (by omega) (by omega)]
  show s.Work=_
  dsimp only
  split
  ·show s.Work=s.Work+0-0;omega
  split
  ·rw [ol];omega
  ·rw [show owW {x with D:=(zT s.M x.D).2}=owW x from rfl,o0 (by omega) (by omega)];omega
 split
 ·intro hT
  refine quiet hT (by omega) (by omega) ?_
  rw [o0 (by omega) (by omega)]
  show s.Work=_
  dsimp only
  split
  ·rw [show ∀b c,owW {x with C:=c,Bin:=b,PC:=3}=0 from fun _ _=>rfl];omega
  split
  ·rw [ob];omega
  ·rw [show owW {x with C:=(zn s.M x.C).2}=owW x from rfl,o0 (by omega) (by omega)];omega
 split
 ·intro hT
  refine quiet hT (by omega) (by omega) ?_
  rw [o0 (by omega) (by omega)]
  show s.Work=s.Work+0-0;omega
 split
 ·intro hT
  refine quiet hT (by omega) (by omega) ?_
  rw [o0 (by omega) (by omega)]
  show s.Work=_
  dsimp only
  split
  ·rw [show ∀c,owW {x with PC:=7,C:=c,Bin:=0}=0 from fun _=>rfl];omega
  ·rw [show owW {x with C:=(zn s.M x.C).2}=owW x from rfl,o0 (by omega) (by omega)];omega
 split
 ·intro hT
  refine quiet hT (by omega) (by omega) ?_
  rw [o0 (by omega) (by omega)]
  dsimp only
  split
  ·have: ∀y,owW {x with Slot:=y,PC:=onW s y}=0:=fun y=>by
    unfold owW
    rcases zkh s y with e | e<;>rw [if_neg (by dsimp only;omega),if_neg (by dsimp only;omega)]
   rw [this];omega
  ·rw [show ∀y v,owW {x with Slot:=y,PC:=6,G:=ZG 1 v w}=0 from fun _ _=>rfl];omega
 split
 ·rename_i c
  intro hT
  obtain ⟨G,gm,gw,g0⟩:=W.p6 c
  have e1:owW x=owG x.G:=by unfold owW;rw [if_neg (by omega),if_pos c]
  have e2:owW (if (zx s x.G).2.Out=1 then {x with G:=(zx s x.G).2,PC:=onW s x.Slot} else {x with G:=(zx s x.G).2})=owG (zx s x.G).2:=by
   split
   ·rename_i o
    rw [Z5 (.inl (by omega))]
    unfold owW
    rcases zkh s x.Slot with e | e<;>rw [if_neg (by dsimp only;omega),if_neg (by dsimp only;omega)]
   ·unfold owW;rw [if_neg (by dsimp only;omega),if_pos c]
  dsimp only at hT ⊢
  rw [e1,e2]
  rcases zv6 G g0 hw with ⟨a,b⟩ | ⟨a,b,d⟩
  ·rcases hT with ⟨n1,n2,_⟩ | ⟨_,_,_,n3,n4⟩ | ⟨_,_,e,_⟩
   ·rw [n1,n2,b];simp only [List.length_nil];omega
   ·exact absurd (n4.symm.trans a) (zdm n3)
   ·omega
  ·rcases hT with ⟨n1,n2,n3⟩ | ⟨n1,n2,_,n3,n4⟩ | ⟨_,_,e,_⟩
   ·exact absurd (b.symm.trans n3) (zdm a)
   ·rw [n1,n2,d];simp only [List.length_nil,List.length_cons];omega
   ·omega
 split
 ·intro hT
  refine quiet hT (by omega) (by omega) ?_
  rw [o0 (by omega) (by omega)]
  dsimp only
  split
  ·rw [ob];omega
  ·rw [show ∀o l,owW {x with PC:=5,Obj:=o,Slot:=0,Batch:=l}=0 from fun _ _=>rfl];omega
 split
 ·rename_i c
  intro hT
  have e0:owW x=0:=o0 (by omega) (by omega)
  rw [e0]
  rcases hT with ⟨_,_,e⟩ | ⟨_,_,e,_⟩ | ⟨n1,n2,_,_⟩
  ·exact absurd e (zn8 (h8 c))
  ·omega
  ·rw [n1,n2]
   show s.Work=s.Work+1-0+0-1
   omega
 split
 ·rename_i c
  intro hT
  refine quiet hT (by omega) (by omega) ?_
  have e1:owW x=1:=by unfold owW;rw [if_pos c]
  rw [e1]
  show wc (s.Work-1)=s.Work+0-1
  rw [xu (by omega) (by omega)];omega
 ·intro hT;omega
theorem zCP {p:zb} {nb:Nat} {s:za} {gh:Gh} {m:Int} {x:zc} (W:MX p s gh x) (O:XOk p nb m x) (hw:0≤s.Work∧s.Work≤4294970000) (h8:x.PC=38→wR s.T x.Obj=1) {N C:List Int}
  (hT:(N=[]∧C=[]∧(zA s m x).1.T=s.T)∨(N=[x.G.Obj]∧C=[]∧(x.PC=3∨x.PC=37)∧¬(s.T.Marks|||bit x.G.Obj=s.T.Marks)∧(zA s m x).1.T={s.T with Marks:=s.T.Marks|||bit x.G.Obj})∨(N=[]∧C=[x.Obj]∧x.PC=38∧(zA s m x).1.T=wJ s.T x.Obj) ∨
   (N=[]∧C=[]∧x.PC=30∧Xz s.H s.P.Most=true∧(zA s m x).1.H=Z4 s.H∧(zA s m x).1.T=X5 s.T (wc (s.H.Objs.length+1)))) :
  (zA s m x).1.Work=s.Work+owX (zA s m x).2-owX x+(N.length:Int)-(C.length:Int):=by
 have hpc:=O.pc
 have hrt:=O.ret
 have calm: ∀ {r:za×zc},(N=[]∧C=[]∧r.1.T=s.T)∨(N=[x.G.Obj]∧C=[]∧(x.PC=3∨x.PC=37)∧¬(s.T.Marks|||bit x.G.Obj=s.T.Marks)∧r.1.T={s.T with Marks:=s.T.Marks|||bit x.G.Obj})∨(N=[]∧C=[x.Obj]∧x.PC=38∧r.1.T=wJ s.T x.Obj) ∨
   (N=[]∧C=[]∧x.PC=30∧Xz s.H s.P.Most=true∧r.1.H=Z4 s.H∧r.1.T=X5 s.T (wc (s.H.Objs.length+1))) →
   x.PC≠3→x.PC≠37→x.PC≠38→r.1.Work=s.Work+owX r.2-owX x→r.1.Work=s.Work+owX r.2-owX x+(N.length:Int)-(C.length:Int):=by
  rintro r (⟨e1,e2,_⟩ | ⟨_,_,e,_⟩ | ⟨_,_,e,_⟩ | ⟨e1,e2,_⟩) h1 h2 h3 h
  ·rw [e1,e2];simp only [List.length_nil];omega
  ·omega
  ·omega
  ·rw [e1,e2];simp only [List.length_nil];omega
 have o0: ∀ {y:zc},y.PC≠39→y.PC≠3→y.PC≠37→owX y=0:=fun h1 h2 h3=>by unfold owX;rw [if_neg h1,if_neg (by omega)]
 have og: ∀(y:zc) (k a b:Int),owX {y with PC:=3,G:=ZG k a b}=0:=fun y k a b=>by unfold owX;rw [if_neg (by dsimp only;omega),if_pos (.inl rfl)];exact Z5 (.inr ⟨by show (0:Int)≠1;decide,by show (0:Int)≠2;decide⟩)
 have gq: ∀(N C:List Int) (G:GX p s gh x.G) (g0:x.G.Out=0) (hT:(N=[]∧C=[]∧(zx s x.G).1.T=s.T)∨(N=[x.G.Obj]∧C=[]∧(x.PC=3∨x.PC=37)∧¬(s.T.Marks|||bit x.G.Obj=s.T.Marks)∧(zx s x.G).1.T={s.T with Marks:=s.T.Marks|||bit x.G.Obj})),
   (zx s x.G).1.Work=s.Work+owG (zx s x.G).2-owG x.G+(N.length:Int)-(C.length:Int):=by
  intro N C G g0 hT
  rcases zv6 G g0 hw with ⟨a,b⟩ | ⟨a,b,d⟩
  ·rcases hT with ⟨n1,n2,_⟩ | ⟨_,_,_,n3,n4⟩
   ·rw [n1,n2,b];simp only [List.length_nil];omega
   ·exact absurd (n4.symm.trans a) (zdm n3)
  ·rcases hT with ⟨n1,n2,n3⟩ | ⟨n1,n2,_,n3,n4⟩
   ·exact absurd (b.symm.trans n3) (zdm a)
   ·rw [n1,n2,d];simp only [List.length_nil,List.length_cons];omega
 revert hT
 refine un (motive:=fun r=>((N=[]∧C=[]∧r.1.T=s.T)∨(N=[x.G.Obj]∧C=[]∧(x.PC=3∨x.PC=37)∧¬(s.T.Marks|||bit x.G.Obj=s.T.Marks)∧r.1.T={s.T with Marks:=s.T.Marks|||bit x.G.Obj})∨(N=[]∧C=[x.Obj]∧x.PC=38∧r.1.T=wJ s.T x.Obj) ∨
   (N=[]∧C=[]∧x.PC=30∧Xz s.H s.P.Most=true∧r.1.H=Z4 s.H∧r.1.T=X5 s.T (wc (s.H.Objs.length+1)))) →
   r.1.Work=s.Work+owX r.2-owX x+(N.length:Int)-(C.length:Int)) s m x ?_ ?_ ?_ ?_ ?_ ?_ ?_ ?_ ?_ ?_ ?_ ?_ ?_ ?_ ?_ ?_ ?_ ?_ ?_ ?_
 ·intro c hT
  refine calm hT (by omega) (by omega) (by omega) ?_
  rw [o0 (y:=x) (by omega) (by omega) (by omega)]
  unfold mu0 zdg
  repeat' split
  all_goals (rw [o0 (by (try dsimp only [setM]);omega) (by (try dsimp only [setM]);omega) (by (try dsimp only [setM]);omega)];dsimp only;omega)
 ·intro c hT
  refine calm hT (by omega) (by omega) (by omega) ?_
  rw [o0 (y:=x) (by omega) (by omega) (by omega)]
  unfold mu1;dsimp only
  split
  ·have:=hrt (.inl c)
   rw [o0 (by dsimp only;omega) (by dsimp only;omega) (by dsimp only;omega)];omega
  ·have e: ∀l,owX {x with PC:=3,Buf:=l,G:=ZG 2 (x.Buf.getD (x.Buf.length-1) 0) m}=0:=fun l=>og {x with Buf:=l} 2 _ m
   rw [e];omega
 ·intro c hT
  refine calm hT (by omega) (by omega) (by omega) ?_
  rw [o0 (y:=x) (by omega) (by omega) (by omega)]
  show s.Work=s.Work+0-0;omega
 ·intro c hT
  obtain ⟨G,gm,g0⟩:=W.p3 c
  have e1:owX x=owG x.G:=by unfold owX;rw [if_neg (by omega),if_pos (.inl c)]
  unfold mu3 at hT ⊢
  dsimp only at hT ⊢
  have e2:owX (if (zx s x.G).2.Out=1 then {x with PC:=1,G:=(zx s x.G).2} else {x with G:=(zx s x.G).2})=owG (zx s x.G).2:=by
   split
   ·rename_i o
    rw [Z5 (.inl (by omega)),o0 (by dsimp only;omega) (by dsimp only;omega) (by dsimp only;omega)]
   ·unfold owX;rw [if_neg (by dsimp only;omega),if_pos (.inl c)]
  rw [e1,e2]
  refine gq N C G g0 ?_
  rcases hT with h | h | ⟨_,_,e,_⟩ | ⟨_,_,e,_⟩
  ·exact .inl h
  ·exact .inr h
  ·omega
  ·omega
 ·intro c hT
  refine calm hT (by omega) (by omega) (by omega) ?_
  rw [o0 (y:=x) (by omega) (by omega) (by omega)]
  show s.Work=s.Work+0-0;omega
 ·intro c hT
  refine calm hT (by omega) (by omega) (by omega) ?_
  rw [o0 (y:=x) (by omega) (by omega) (by omega)]
  unfold zma;dsimp only
  split<;>(rw [o0 (by dsimp only [VA];omega) (by dsimp only [VA];omega) (by dsimp only [VA];omega)];omega)
 ·intro c hT
  refine calm hT (by omega) (by omega) (by omega) ?_
  rw [o0 (y:=x) (by omega) (by omega) (by omega)]
  unfold zmA;dsimp only
  split<;>(rw [o0 (by dsimp only;omega) (by dsimp only;omega) (by dsimp only;omega)];omega)
 ·intro c hT
  refine calm hT (by omega) (by omega) (by omega) ?_
  rw [o0 (y:=x) (by omega) (by omega) (by omega)]
  unfold zmw;dsimp only
  split<;>(rw [o0 (by dsimp only;omega) (by dsimp only;omega) (by dsimp only;omega)];omega)
 ·intro c hT
  refine calm hT (by omega) (by omega) (by omega) ?_
  rw [o0 (y:=x) (by omega) (by omega) (by omega)]
  show s.Work=s.Work+0-0;omega
 ·intro c hT
  refine calm hT (by omega) (by omega) (by omega) ?_
  rw [o0 (y:=x) (by omega) (by omega) (by omega)]
  unfold zg9
  split
  ·split
   ·show s.Work=s.Work+0-0;omega
   ·show s.Work=s.Work+0-0;omega
  ·show s.Work=s.Work+0-0;omega
 ·intro c hT
  refine calm hT (by omega) (by omega) (by omega) ?_
  rw [o0 (y:=x) (by omega) (by omega) (by omega)]
  unfold zlM;dsimp only
  split<;>(rw [o0 (by dsimp only;omega) (by dsimp only;omega) (by dsimp only;omega)];omega)
 ·intro c hT
  refine calm hT (by omega) (by omega) (by omega) ?_
  rw [o0 (y:=x) (by omega) (by omega) (by omega)]
  unfold zlN;dsimp only
  split
  ·rw [o0 (by dsimp only;omega) (by dsimp only;omega) (by dsimp only;omega)];omega
  split<;>(rw [o0 (by dsimp only;omega) (by dsimp only;omega) (by dsimp only;omega)];omega)
 ·intro c hT
  refine calm hT (by omega) (by omega) (by omega) ?_
  rw [o0 (y:=x) (by omega) (by omega) (by omega)]
  show s.Work=s.Work+0-0;omega
 ·intro c hT
  refine calm hT (by omega) (by omega) (by omega) ?_
  rw [o0 (y:=x) (by omega) (by omega) (by omega)]
  unfold zlO;dsimp only
  split<;>(rw [o0 (by dsimp only;omega) (by dsimp only;omega) (by dsimp only;omega)];omega)
 ·intro c hT
  refine calm hT (by omega) (by omega) (by omega) ?_
  rw [o0 (y:=x) (by omega) (by omega) (by omega)]
  unfold zmd;dsimp only
  split<;>(rw [o0 (by dsimp only;omega) (by dsimp only;omega) (by dsimp only;omega)];omega)
 ·intro c hT
  refine calm hT (by omega) (by omega) (by omega) ?_
  rw [o0 (y:=x) (by omega) (by omega) (by omega)]
  unfold zmz;dsimp only
  split
  ·have:=zg6 s (wc (x.Slot+1))
   rw [o0 (by dsimp only;omega) (by dsimp only;omega) (by dsimp only;omega)];omega
  ·have e: ∀y v,owX {x with Slot:=y,PC:=37,G:=ZG 3 v m}=0:=fun y v=>by unfold owX;rw [if_neg (by dsimp only;omega),if_pos (.inr rfl)];exact Z5 (.inr ⟨by show (0:Int)≠1;decide,by show (0:Int)≠2;decide⟩)
   rw [e];omega
 ·intro c hT
  obtain ⟨G,gm,g0⟩:=W.p37 c
  have e1:owX x=owG x.G:=by unfold owX;rw [if_neg (by omega),if_pos (.inr c)]
  unfold zjC at hT ⊢
  dsimp only at hT ⊢
  have e2:owX (if (zx s x.G).2.Out=1 then {x with G:=(zx s x.G).2,PC:=onM s x.Slot} else {x with G:=(zx s x.G).2})=owG (zx s x.G).2:=by
   split
   ·rename_i o
    have:=zg6 s x.Slot
    rw [Z5 (.inl (by omega)),o0 (by dsimp only;omega) (by dsimp only;omega) (by dsimp only;omega)]
   ·unfold owX;rw [if_neg (by dsimp only;omega),if_pos (.inr c)]
  rw [e1,e2]
  refine gq N C G g0 ?_
  rcases hT with h | h | ⟨_,_,e,_⟩ | ⟨_,_,e,_⟩
  ·exact .inl h
  ·exact .inr h
  ·omega
  ·omega
 ·intro c hT
  rw [o0 (y:=x) (by omega) (by omega) (by omega)]
  rcases hT with ⟨_,_,e⟩ | ⟨_,_,e,_⟩ | ⟨n1,n2,_,_⟩ | ⟨_,_,e,_⟩
  ·exact absurd e (zn8 (h8 c))
  ·omega
  ·rw [n1,n2]
   show s.Work=s.Work+1-0+0-1
   omega
  ·omega
 ·intro c hT
  refine calm hT (by omega) (by omega) (by omega) ?_
  have e1:owX x=1:=by unfold owX;rw [if_pos c]
  rw [e1]
  show wc (s.Work-1)=s.Work+0-1
  rw [xu (by omega) (by omega)];omega
 ·intro hT
  rcases hT with ⟨n1,n2,_⟩ | ⟨_,_,_,n3,n4⟩ | ⟨n1,n2,c,e⟩ | ⟨n1,n2,_⟩
  ·rw [n1,n2];simp only [List.length_nil];omega
  ·exact absurd n4.symm (zdm n3)
  ·exact absurd e.symm (zn8 (h8 c))
  ·rw [n1,n2];simp only [List.length_nil];omega
end
end Go.Pe.G
namespace Go.Pe.G
open Go.Pe
noncomputable section
def WI (s:za):Int:=(s.Ws.map owW).sum+(s.Ms.map owX).sum
theorem zx1: ∀ {l:List Int},(∀v∈l,0≤v)→0≤l.sum
 | [],_=>by simp
 | a::l,h=>by
  have:=zx1 (l:=l) (fun v hv=>h v (List.mem_cons_of_mem _ hv))
  have:=h a (List.mem_cons_self ..)
  rw [List.sum_cons];omega
theorem zFe (s:za):0≤WI s:=by
 have h1:0≤(s.Ws.map owW).sum:=zx1 (fun v hv=>by obtain ⟨x,_,rfl⟩:=List.mem_map.1 hv;exact (zxi x).1)
 have h2:0≤(s.Ms.map owX).sum:=zx1 (fun v hv=>by obtain ⟨x,_,rfl⟩:=List.mem_map.1 hv;exact (zyA x).1)
 unfold WI;omega
theorem zyL {α:Type} {f:α→Int} {l:List α} {i:Nat} {x:α} (h:l[i]? =some x) (y:α):((l.set i y).map f).sum=(l.map f).sum-f x+f y:=by
 have hi:=(List.getElem?_eq_some_iff.1 h).1
 rw [List.map_set,zqF _ _ _ (by simpa using hi)]
 rw [List.getD_eq_getElem?_getD,List.getElem?_map,h]
 rfl
structure EG (p:zb) (nb k:Nat) (s:za) (gh:Gh):Prop where
 G:FG p nb k s gh
 wk:s.Work=((vu p s gh).length:Int)+WI s
 le:s.Work≤2*(k:Int)+100
theorem EG.work_nn {p:zb} {nb k:Nat} {s:za} {gh:Gh} (I:EG p nb k s gh):0≤s.Work:=by
 have:=I.wk;have:=zFe s;omega
theorem zBJ (s:za):({xB s with Epoch:=s.Epoch,Flag:=s.Flag,Done:=s.Done,Restarts:=s.Restarts,D:=s.D}:za)=s:=by
 unfold xB
 repeat' split
 all_goals rfl
theorem FG.more {p:zb} {nb k:Nat} {s:za} {gh:Gh} (G:FG p nb k s gh):FG p nb (k+1) s gh:=⟨G.E,G.X.quiet G.E.S rfl,G.W,G.M,G.B,G.mrk,G.wob,G.buf,G.bk,G.ne⟩
theorem EG.more {p:zb} {nb k:Nat} {s:za} {gh:Gh} (I:EG p nb k s gh):EG p nb (k+1) s gh:=⟨I.G.more,I.wk,by have:=I.le;omega⟩
theorem EG.det {p:zb} (hp:zB p) {nb k:Nat} {s:za} {gh:Gh} (I:EG p nb k s gh):EG p nb (k+1) (xB s) gh∧ziF s (xB s):=by
 have hd:=zBJ s
 have eM:(xB s).M=s.M:=by conv=>rhs;rw [←hd]
 have eB:(xB s).Bins=s.Bins:=by conv=>rhs;rw [←hd]
 have eT:(xB s).T=s.T:=by conv=>rhs;rw [←hd]
 have eH:(xB s).H=s.H:=by conv=>rhs;rw [←hd]
 have eW:(xB s).Ws=s.Ws:=by conv=>rhs;rw [←hd]
 have eX:(xB s).Ms=s.Ms:=by conv=>rhs;rw [←hd]
 have eK:(xB s).Work=s.Work:=by conv=>rhs;rw [←hd]
 have e:vu p (xB s) gh=vu p s gh:=by
  unfold vu
  rw [eW,eX,uI eB,xx (fun x _=>zbU (x:=x) eM eB),xx (fun x _=>zfQ (x:=x) eB)]
 have e2:WI (xB s)=WI s:=by unfold WI;rw [eW,eX]
 exact ⟨⟨I.G.det hp hd,by rw [e,e2,eK];exact I.wk,by rw [eK];have:=I.le;omega⟩,.inl ⟨eT,by rw [eH]⟩⟩
theorem EG.worker {p:zb} (hp:zB p) {nb k:Nat} {s:za} {gh:Gh} (hk:k<2147480000) (I:EG p nb k s gh) {w:Int} (hw:1≤w∧w≤p.Workers) (hd:s.Done=false): ∃gh',EG p nb (k+1) (yy s w) gh'∧ziF s (yy s w):=by
 obtain ⟨gh',G',F,x,hx,N,C,hbag,hT⟩:=I.G.worker hp (by omega) hw hd
 have hwl:=I.G.E.wl
 have ei:(((w-1).toNat:Nat):Int)+1=w:=by omega
 have hWX:=I.G.W _ x hx
 have hWO:=I.G.E.W _ x hx
 rw [ei] at hWX hWO
 have h8:x.PC=8→wR s.T x.Obj=1:=fun e=>I.G.grey (zEY hx (by unfold zJ;rw [UH (.inr e)];simp))
 have hnn:=I.work_nn
 have hle:=I.le
 have hW:=zBw hWX hWO (by omega) h8 hT
 have hlen:=hbag.length_eq
 rw [List.length_append,List.length_append] at hlen
 have eS:yy s w={(zp s w x).1 with Ws:=s.Ws.set (w-1).toNat (zp s w x).2}:=by
  unfold yy
  rw [if_neg (by rw [hd];rintro (e | e | e)<;>first | cases e | omega),hx]
 have eK:(yy s w).Work=(zp s w x).1.Work:=by rw [eS]
 have eX:(yy s w).Ms=s.Ms:=by rw [eS];show (zp s w x).1.Ms=_;rw [ztl hWO]
 have eW:(yy s w).Ws=s.Ws.set (w-1).toNat (zp s w x).2:=by rw [eS]
 have ho:WI (yy s w)=WI s-owW x+owW (zp s w x).2:=by
  unfold WI
  rw [eX,eW,zyL hx];omega
 have hwk:=I.wk
 have hN:N.length≤1:=by rcases hT with ⟨e,_⟩ | ⟨e,_⟩ | ⟨e,_⟩<;>rw [e]<;>simp
 have o1:=zxi x
 have o2:=zxi (zp s w x).2
 refine ⟨gh',⟨G',by rw [eK,hW,ho];omega,?_⟩,F⟩
 rw [eK,hW]
 omega
theorem EG.mutator {p:zb} (hp:zB p) {nb k:Nat} {s:za} {gh:Gh} (hk:k<2147480000) (I:EG p nb k s gh) {m:Int} (hm:1≤m∧m≤p.Mutators) (hd:s.Done=false): ∃gh',EG p nb (k+1) (yI s m) gh'∧ziF s (yI s m):=by
 obtain ⟨gh',G',F,x,hx,N,C,hbag,hT⟩:=I.G.mutator hp (by omega) hm hd
 have hml:=I.G.E.ml
 have ei:(((m-1).toNat:Nat):Int)+1=m:=by omega
 have hMX:=I.G.M _ x hx
 have hXO:=I.G.E.X _ x hx
 rw [ei] at hXO
 have h8:x.PC=38→wR s.T x.Obj=1:=fun e=>I.G.grey (zEZ hx (by unfold zW;rw [zb1 (.inr e)];simp))
 have hnn:=I.work_nn
 have hle:=I.le
 have hW:=zCP (m:=m) hMX hXO (by omega) h8 hT
 have hlen:=hbag.length_eq
 rw [List.length_append,List.length_append] at hlen
 have eS:yI s m={(zA s m x).1 with Ms:=s.Ms.set (m-1).toNat (zA s m x).2}:=by
  unfold yI
  rw [if_neg (by rw [hd];rintro (e | e | e)<;>first | cases e | omega),hx]
 have eK:(yI s m).Work=(zA s m x).1.Work:=by rw [eS]
 have eW:(yI s m).Ws=s.Ws:=by rw [eS];show (zA s m x).1.Ws=_;rw [zwa]
 have eX:(yI s m).Ms=s.Ms.set (m-1).toNat (zA s m x).2:=by rw [eS]
 have ho:WI (yI s m)=WI s-owX x+owX (zA s m x).2:=by
  unfold WI
  rw [eX,eW,zyL hx];omega
 have hwk:=I.wk
 have hN:N.length≤1:=by rcases hT with ⟨e,_⟩ | ⟨e,_⟩ | ⟨e,_⟩ | ⟨e,_⟩<;>rw [e]<;>simp
 have o1:=zyA x
 have o2:=zyA (zA s m x).2
 refine ⟨gh',⟨G',by rw [eK,hW,ho];omega,?_⟩,F⟩
 rw [eK,hW]
 omega
theorem zBT {s:za} (hd:s.Done=true) (j:Int):ziu s j=s:=by
 unfold ziu
 split
 ·unfold xB;rw [if_pos hd]
 split
 ·unfold yy;rw [if_pos (.inl hd)]
 ·unfold yI;rw [if_pos (.inl hd)]
theorem EG.next {p:zb} (hp:zB p) {nb k:Nat} {s:za} {gh:Gh} (hk:k<2147480000) (I:EG p nb k s gh) (j:Int): ∃gh',EG p nb (k+1) (ziu s j) gh'∧ziF s (ziu s j):=by
 cases hd:s.Done with
 | true=>rw [zBT hd];exact ⟨gh,I.more,.inl ⟨rfl,rfl⟩⟩
 | false =>
  have hwl:=I.G.E.wl
  have hml:=I.G.E.ml
  unfold ziu
  split
  ·exact ⟨gh,I.det hp⟩
  split
  ·by_cases h1:1≤j
   ·exact I.worker hp hk (by omega) hd
   ·have:yy s j=s:=by unfold yy;rw [if_pos (.inr (.inl (by omega)))]
    rw [this];exact ⟨gh,I.more,.inl ⟨rfl,rfl⟩⟩
  ·by_cases h1:1≤j-(s.Ws.length:Int)∧j-(s.Ws.length:Int)≤(s.Ms.length:Int)
   ·exact I.mutator hp hk (by omega) hd
   ·have:yI s (j-(s.Ws.length:Int))=s:=by unfold yI;rw [if_pos (by omega)]
    rw [this];exact ⟨gh,I.more,.inl ⟨rfl,rfl⟩⟩
end
end Go.Pe.G
namespace Go.Pe.G
open Go.Pe
noncomputable section
theorem zrY: ∀(n:Nat) (l:List Int),l.Nodup→(∀o∈l,1≤o∧o≤(n:Int))→l.length≤n
 | 0,[],_,_=>Nat.le_refl _
 | 0,a::l,_,h=>by have:=h a (by simp);omega
 | n+1,l,hd,h=>by
  have ih:=zrY n (l.erase ((n+1:Nat):Int)) (hd.erase _) (fun o ho=>by
   have:=(hd.mem_erase_iff).1 ho
   have h2:=h o this.2
   have h3:=this.1
   omega)
  rw [List.length_erase] at ih
  split at ih<;>omega
end
end Go.Pe.G
namespace Go.Pe.G
open Go.Pe
noncomputable section
theorem zzD {p:zb} (h:zB p) {nb k:Nat} {s:za} {gh:Gh} {own:List Int} (X:SX p nb s gh own k) (hnb:nb≤50) {N:Int} (hN:(nb:Int)≤N) (hN2:N<1000):zjH s.M (zY p) (zD p) N=some (gh.F,()):=by
 have hF:=Zq h
 have hE:=wp h
 have hl:gh.F.length<nb∨gh.F.length=0:=by
  have:=X.L.all.length_eq
  simp [znQ] at this
  omega
 rw [ztc,ziL,Option.bind_some,zdo,Option.bind_some]
 obtain ⟨o,e,ho⟩:=xZ (f:=zd4) (fun a=>∃x pre rest,gh.F=pre++rest∧a=(s.M,zD p,N,x,pre,())∧Chn s.M (zD p) nb x rest) (fun a=>gh.F.length-a.2.2.2.2.1.length) (fun o=>o= .brk (gh.F,())) (by
  rintro _ ⟨x,pre,rest,e,rfl,c⟩
  rw [zpC,yt]
  cases rest with
  | nil =>
   have hx:x=0:=c
   rw [if_pos hx]
   exact ⟨_,rfl,by rw [e,List.append_nil]⟩
  | cons y l =>
   obtain ⟨c1,c2,c3,c4⟩:=c
   have hlen:gh.F.length=pre.length+(l.length+1):=by rw [e,List.length_append,List.length_cons]
   rw [if_neg (by omega),zj,if_pos (show (pre.length:Int)<(bif decide ((1000:Int)<N) then 1000 else N) by rw [zj,if_neg (by omega)];omega),yp (by simp;omega),Option.bind_some,zS (by omega) (by omega),ziL,Option.bind_some]
   refine ⟨_,rfl,⟨_,pre++[x],l,by rw [e,c1];simp,rfl,?_⟩,?_⟩
   ·rw [c1];exact c4
   ·show gh.F.length-(pre++[x]).length<gh.F.length-pre.length
    rw [List.length_append,List.length_singleton];omega) (s.M,zD p,N,yf (ld s.M (zY p)),([]:List Int),()) ⟨_,[],gh.F,rfl,rfl,X.L.cF⟩ (by show gh.F.length-0<18446744073709551616;omega)
 subst ho
 exact congrArg (fun o=>Option.bind o _) e
theorem zwl {α β:Type} (f:α→List β): ∀(l:List α) (a:List β),l.foldl (fun r x=>r++f x) a=a++l.flatMap f
 | [],a=>by simp
 | x::l,a=>by rw [List.foldl_cons,zwl f l,List.flatMap_cons,List.append_assoc]
theorem zoo {p:zb} (h:zB p) {k:Nat} {s:za} {gh:Gh} (G:FG p (zQ p+1) k s gh):ZL s=some (uk (gh.F.flatMap (yu s)),())∧(gh.F.flatMap (yu s)).length≤9:=by
 have hP:=G.E.S.P
 have hbl:=G.E.S.bins
 have hbp:=zcA h
 have hN:=G.E.H.n
 have hn:=h.n
 have hmo:=h.most
 have hl9:(gh.F.flatMap (yu s)).length≤9:=by
  have hs:(gh.F.flatMap (yu s)).Sublist (vu p s gh):=(List.sublist_append_left _ _).trans (List.sublist_append_left _ _)
  have:=zrY s.H.Objs.length _ (G.B.nd.sublist hs) (fun o ho=>by
   have ho:=hs.subset ho
   exact ⟨(zio ((G.B.gr o).1 ho)).1,G.mrk o ((WV _ _).1 ((G.B.gr o).1 ho)).1⟩)
  omega
 refine ⟨?_,hl9⟩
 have hF:gh.F.length<1000:=by
  have:=G.X.L.all.length_eq
  simp [znQ] at this
  omega
 have hnode: ∀y∈gh.F,1≤y∧y<((zQ p+1:Nat):Int):=fun y hy=>zqj.1 (G.X.L.all.subset (List.mem_append_left _ (List.mem_append_left _ hy)))
 rw [zsF,zbb,Option.bind_some,UF,Option.bind_some,hP]
 dsimp only
 rw [zzD h G.X (by omega) (by omega) (by omega),Option.bind_some]
 dsimp only
 obtain ⟨e,_⟩:=Zo (f:=WZ) (fun j r=>((gh.F.length:Int),j,s,r,gh.F,())) (fun r=>(r,())) gh.F (by omega) (fun r y=>r++yu s y) (fun i r=>r=(gh.F.take i).flatMap (yu s)) (s:=[]) rfl
  (fun i r y hy hi hr=>by
   have hm:=List.mem_of_getElem? hy
   obtain ⟨b1,b2⟩:=zve G (hnode y hm)
   have hsub:r.length+(yu s y).length≤9:=by
    have h1:r++yu s y=(gh.F.take (i+1)).flatMap (yu s):=by rw [hr,List.take_add_one,hy];simp
    have h2:((gh.F.take (i+1)).flatMap (yu s)).Sublist (gh.F.flatMap (yu s)):=by
     conv=>rhs;rw [←List.take_append_drop (i+1) gh.F,List.flatMap_append]
     exact List.sublist_append_left _ _
    have h3:=h2.length_le
    rw [←List.length_append,h1];omega
   have hb2:=(hnode y hm).2
   refine ⟨by rw [hr,List.take_add_one,hy];simp,?_⟩
   show WZ ((gh.F.length:Int),(i:Int),s,r,gh.F,())=_
   rw [zgq,zj,if_pos (by omega),wT (by omega) (by omega),Option.bind_some,Int.toNat_natCast,hy,Option.bind_some,zj,if_pos (by omega),b1,Option.bind_some,yp (by simp;omega),Option.bind_some,yw (by omega)])
  (fun r hr=>by
   show WZ ((gh.F.length:Int),(gh.F.length:Int),s,r,gh.F,())=_
   rw [zgq,zj,if_neg (by omega)])
 rw [zwl,List.nil_append] at e
 rw [e,Option.bind_some]
 dsimp only
 rw [zaM (by omega)];rfl
theorem zz4 {p:zb} (h:zB p) {nb k:Nat} {s:za} {gh:Gh} (G:FG p nb k s gh): ∀(n i:Nat),i+n=s.Ws.length→zvB s n (i:Int)=some ((List.range' i n).map fun j:Nat=>(s.Ws[j]?).elim [] fun x=>uk (zJ s x++gh.D ((j:Int)+1)))
 | 0,i,_=>rfl
 | n+1,i,hi=>by
  have hx:=List.getElem?_eq_getElem (show i<s.Ws.length by omega)
  have ih:=zz4 h G n (i+1) (by omega)
  rw [show ((i+1:Nat):Int)=(i:Int)+1 by omega] at ih
  rw [zvB,zrm h G hx,Option.bind_some,ih,Option.bind_some,List.range'_succ,List.map_cons,hx];rfl
theorem zz5 {p:zb} (h:zB p) {nb k:Nat} {s:za} {gh:Gh} (G:FG p nb k s gh): ∀(n i:Nat),i+n=s.Ms.length→zuJ s n (i:Int)=some ((List.range' i n).map fun j:Nat=>(s.Ms[j]?).elim [] fun x=>uk (zW s x))
 | 0,i,_=>rfl
 | n+1,i,hi=>by
  have hx:=List.getElem?_eq_getElem (show i<s.Ms.length by omega)
  have ih:=zz5 h G n (i+1) (by omega)
  rw [show ((i+1:Nat):Int)=(i:Int)+1 by omega] at ih
  rw [zuJ,zpp h G hx,Option.bind_some,ih,Option.bind_some,List.range'_succ,List.map_cons,hx];rfl
theorem zCu {a b:List Int} (ha:a.length<1000000) (hb:b.length<1000000):Yx [a,b]=some (a++b,()):=by
 rw [zd8]
 obtain ⟨e,_⟩:=Zo (f:=xz) (fun j (r:Int)=>([a,b],r,[a,b],2,j,())) (fun r=>([a,b],r,())) [a,b] (show 2<1000000 by decide) (fun r x=>r+(x.length:Int)) (fun i r=>0≤r∧r≤(i:Int)*1000000) (s:=0) ⟨by omega,by omega⟩
  (fun i r x hx hi hr=>by
   have hi:i<2:=hi
   have hxl:x.length<1000000:=by
    rcases List.mem_cons.1 (List.mem_of_getElem? hx) with rfl | hx
    ·exact ha
    ·rw [List.mem_singleton.1 hx];exact hb
   refine ⟨⟨by omega,by omega⟩,?_⟩
   show xz ([a,b],r,[a,b],2,(i:Int),())=_
   rw [XE,zj,if_pos (by omega),xp hx,Option.bind_some,zS (a:=r+(x.length:Int)) (by omega) (by omega),zj,if_neg (by omega),yw (by omega)])
  (fun r hr=>by
   show xz ([a,b],r,[a,b],2,2,())=_
   rw [XE];rfl)
 have e:zO xz ([a,b],0,[a,b],(([a,b]:List (List Int)).length:Int),0,())=some (.brk ([a,b],0+(a.length:Int)+(b.length:Int),())):=e
 rw [e,Option.bind_some]
 dsimp only
 have hg:zAG (0+(a.length:Int)+(b.length:Int))=some ([],()):=by
  rw [zDA]
  unfold zsJ
  rw [decide_eq_true (by omega:(0:Int)≤0+(a.length:Int)+(b.length:Int)),decide_eq_true (by omega:0+(a.length:Int)+(b.length:Int)<4294967296)];rfl
 rw [hg,Option.bind_some]
 obtain ⟨e,_⟩:=Zo (f:=xq) (fun j (r:List Int)=>([a,b],2,j,r,())) (fun r=>(r,())) [a,b] (show 2<1000000 by decide) (fun r x=>r++x) (fun i r=>r.length≤i*1000000) (s:=[]) (by simp)
  (fun i r x hx hi hr=>by
   have hi:i<2:=hi
   have hxl:x.length<1000000:=by
    rcases List.mem_cons.1 (List.mem_of_getElem? hx) with rfl | hx
    ·exact ha
    ·rw [List.mem_singleton.1 hx];exact hb
   refine ⟨by rw [List.length_append];omega,?_⟩
   show xq ([a,b],2,(i:Int),r,())=_
   rw [Xi,zj,if_pos (by omega),xp hx,Option.bind_some,yp (by simp;omega),Option.bind_some,yw (by omega)])
  (fun r hr=>by
   show xq ([a,b],2,2,r,())=_
   rw [Xi];rfl)
 have e:zO xq ([a,b],(([a,b]:List (List Int)).length:Int),0,([]:List Int),())=some (.brk ([]++a++b,())):=e
 rw [e];rfl
theorem zEB {a b:List Int} (ha:a.length<1000000) (hb:b.length<1000000):zqi a b=some (uk (a++b),()):=by
 rw [zyj,zCu ha hb,Option.bind_some,zv7 (by simp;omega)];rfl
theorem zvS: ∀(ys:List (List Int)) (a:List Int),(a++ys.flatten).length<1000000→Zb zbc ys (uk a,())=some (uk (a++ys.flatten),())
 | [],a,_=>by rw [Zb];simp
 | y::ys,a,hl=>by
  rw [List.flatten_cons,←List.append_assoc] at hl ⊢
  have hl2:=hl
  rw [List.length_append,List.length_append] at hl2
  rw [Zb,zq9,zEB (by rw [zDn];omega) (by omega),Option.bind_some,Option.bind_some]
  dsimp only
  rw [zC3]
  exact zvS ys (a++y) hl
theorem zvD {α:Type} {f:α→List Int} (l:List α):List.Perm ((l.map fun x=>uk (f x)).flatten) (l.flatMap f):=by
 induction l with
 | nil=>exact List.Perm.refl _
 | cons a l ih =>
  rw [List.map_cons,List.flatten_cons,List.flatMap_cons]
  exact (WO _).append ih
theorem zDz {p:zb} (h:zB p) {k:Nat} {s:za} {gh:Gh} (G:FG p (zQ p+1) k s gh): ∃ys,zs8 s=some ys∧List.Perm ys.flatten (vu p s gh):=by
 have hwl:=G.E.wl
 have hwk:=h.wk
 have hml:=G.E.ml
 have hmt:=h.mt
 refine ⟨_,by
  unfold zs8
  rw [decide_eq_true (show s.Ws.length<1000000 by omega),decide_eq_true (show s.Ms.length<1000000 by omega),(zoo h G).1,Bool.and_self,cond_true,Option.bind_some,show (0:Int)=((0:Nat):Int) from rfl,zz4 h G s.Ws.length 0 (by omega),Option.bind_some,zz5 h G s.Ms.length 0 (by omega),Option.bind_some],?_⟩
 have eW:((List.range' 0 s.Ws.length).map fun j:Nat=>(s.Ws[j]?).elim [] fun x=>uk (zJ s x++gh.D ((j:Int)+1)))=(List.range s.Ws.length).map fun j:Nat=>uk ((s.Ws[j]?).elim [] fun x=>zJ s x++gh.D ((j:Int)+1)):=by
  rw [←List.range_eq_range']
  refine List.map_congr_left (fun j hj=> ?_)
  rw [List.getElem?_eq_getElem (List.mem_range.1 hj)];rfl
 have eM:((List.range' 0 s.Ms.length).map fun j:Nat=>(s.Ms[j]?).elim [] fun x=>uk (zW s x))=(List.range s.Ms.length).map fun j:Nat=>uk ((s.Ms[j]?).elim [] (zW s)):=by
  rw [←List.range_eq_range']
  refine List.map_congr_left (fun j hj=> ?_)
  rw [List.getElem?_eq_getElem (List.mem_range.1 hj)];rfl
 dsimp only
 rw [eW,eM,List.flatten_cons,List.flatten_append]
 refine ((WO _).append ((zvD _).append (zvD _))).trans ?_
 rw [zt1 (f:=zW s) s.Ms]
 have eW2:(List.range s.Ws.length).flatMap (fun j:Nat=>(s.Ws[j]?).elim [] fun x=>zJ s x++gh.D ((j:Int)+1))=(List.range s.Ws.length).flatMap (fun j:Nat=>(s.Ws[j]?).elim [] (zJ s)++gh.D ((j:Int)+1)) :=
  xx (fun j hj=>by rw [List.getElem?_eq_getElem (List.mem_range.1 hj)];rfl)
 rw [eW2]
 unfold vu yo
 have en:p.Workers.toNat=s.Ws.length:=by omega
 rw [en,List.append_assoc]
 refine List.Perm.append_left _ ?_
 rw [←List.append_assoc]
 refine List.Perm.append_right _ ?_
 refine (zwo (List.range s.Ws.length) (f:=fun i:Nat=>(s.Ws[i]?).elim [] (zJ s)) (g:=fun i:Nat=>gh.D ((i:Int)+1))).trans ?_
 rw [zt1 (f:=zJ s) s.Ws]
 exact List.perm_append_comm
theorem FG.bag9 {p:zb} (h:zB p) {nb k:Nat} {s:za} {gh:Gh} (G:FG p nb k s gh):(vu p s gh).length≤9∧∀o∈vu p s gh,1≤o∧o≤9:=by
 have hN:=G.E.H.n
 have hn:=h.n
 have hmo:=h.most
 have hr: ∀o∈vu p s gh,1≤o∧o≤(s.H.Objs.length:Int):=fun o ho=>⟨(zio ((G.B.gr o).1 ho)).1,G.mrk o ((WV _ _).1 ((G.B.gr o).1 ho)).1⟩
 have:=zrY s.H.Objs.length _ G.B.nd hr
 exact ⟨by omega,fun o ho=>by have:=hr o ho;omega⟩
theorem zCk {p:zb} (h:zB p) {k:Nat} {s:za} {gh:Gh} (G:FG p (zQ p+1) k s gh):UU s=some (uk (vu p s gh),()):=by
 obtain ⟨ys,e,hp⟩:=zDz h G
 have hl:=(G.bag9 h).1
 rw [zuO,zwA,Option.bind_some]
 have ej:zp1 s.P.Workers s.P.Mutators s.P.Cap s.P.Buf s.P.Bin s.P.Most s.P.Price s.P.Limit s.P.H.Slots s.P.H.Objs s.P.Roots s.P.Regs s.P.Progs s.P.Picks s.H.Slots s.H.Objs s.M s.Bins s.T.Marks s.T.Black s.Work s.Epoch s.Flag s.Done s.Restarts s.Acks s.L.Scanned s.L.Spent s.L.Pool s.L.Bal s.Ws s.Ms s.D.PC s.D.I=some ys:=e
 dsimp only
 rw [ej,Option.bind_some]
 have:=zvS ys [] (by rw [List.nil_append,hp.length_eq];omega)
 rw [List.nil_append] at this
 have this:Zb zbc ys (([]:List Int),())=some (uk ys.flatten,()):=this
 rw [this,zzQ hp];rfl
end
end Go.Pe.G
namespace Go.Pe.G
open Go.Pe
noncomputable section
def uR (s:za):List zu:=(s.Ws.filter (fun x=>decide (x.PC=6))).map (·.G)++(s.Ms.filter (fun x=>decide (x.PC=3∨x.PC=37))).map (·.G)
theorem zop {α β:Type} (c:α→Bool) (f:α→β): ∀(l:List α) (a:List β),l.foldl (fun r x=>bif c x then r++[f x] else r) a=a++(l.filter c).map f
 | [],a=>by simp
 | x::l,a=>by
  rw [List.foldl_cons,zop c f l,List.filter_cons]
  cases c x<;>simp
theorem zA0 (x:zc):ud x=some (decide (x.PC=3∨x.PC=37),()):=by
 rw [zd1]
 by_cases c:x.PC=3
 ·rw [decide_eq_true c,decide_eq_true (show x.PC=3∨x.PC=37 from .inl c)];rfl
 ·rw [decide_eq_false c]
  by_cases c2:x.PC=37
  ·rw [decide_eq_true c2,decide_eq_true (show x.PC=3∨x.PC=37 from .inr c2)];rfl
  ·rw [decide_eq_false c2,decide_eq_false (show ¬(x.PC=3∨x.PC=37) from fun e=>e.elim c c2)];rfl
theorem zoE {s:za} (h1:s.Ws.length≤100) (h2:s.Ms.length≤100):zai s=some (uR s,()):=by
 rw [zqc]
 obtain ⟨e,_⟩:=Zo (f:=Yt) (fun j r=>(s.Ws,(s.Ws.length:Int),j,s,r,())) (fun r=>(s,r,())) s.Ws (Nat.lt_of_le_of_lt h1 (by decide)) (fun r x=>bif decide (x.PC=6) then r++[x.G] else r) (fun i r=>r.length≤i) (s:=[]) (by simp)
  (fun i r x hx hi hr=>by
   refine ⟨?_,?_⟩
   ·cases decide (x.PC=6)
    ·show r.length≤_;omega
    ·show (r++[x.G]).length≤_;simp;omega
   show Yt (s.Ws,(s.Ws.length:Int),(i:Int),s,r,())=_
   rw [zcE,zj,if_pos (by omega),xp hx,Option.bind_some,yp (by simp;omega),Option.bind_some,yw (by omega)]
   cases decide (x.PC=6)<;>rfl)
  (fun r hr=>by
   show Yt (s.Ws,(s.Ws.length:Int),(s.Ws.length:Int),s,r,())=_
   rw [zcE,zj,if_neg (by omega)])
 rw [zop,List.nil_append] at e
 rw [e,Option.bind_some]
 dsimp only
 have hfl:((s.Ws.filter (fun x:zh=>decide (x.PC=6))).map fun x:zh=>x.G).length≤s.Ws.length:=by rw [List.length_map];exact List.length_filter_le _ _
 obtain ⟨e,_⟩:=Zo (f:=YE) (fun j r=>(s.Ms,(s.Ms.length:Int),j,r,())) (fun r=>(r,())) s.Ms (Nat.lt_of_le_of_lt h2 (by decide)) (fun r x=>bif decide (x.PC=3∨x.PC=37) then r++[x.G] else r) (fun i r=>r.length≤i+100) (s:=(s.Ws.filter (fun x:zh=>decide (x.PC=6))).map fun x:zh=>x.G) (by omega)
  (fun i r x hx hi hr=>by
   refine ⟨?_,?_⟩
   ·cases decide (x.PC=3∨x.PC=37)
    ·show r.length≤_;omega
    ·show (r++[x.G]).length≤_;simp;omega
   show YE (s.Ms,(s.Ms.length:Int),(i:Int),r,())=_
   rw [zcR,zj,if_pos (by omega),xp hx,Option.bind_some,zA0,Option.bind_some,yp (by simp;omega),Option.bind_some,yw (by omega)]
   dsimp only
   cases decide (x.PC=3∨x.PC=37)<;>rfl)
  (fun r hr=>by
   show YE (s.Ms,(s.Ms.length:Int),(s.Ms.length:Int),r,())=_
   rw [zcR,zj,if_neg (by omega)])
 rw [zop] at e
 rw [e];rfl
theorem zyt (g:zu):owG g=0∨owG g=1:=by unfold owG;split<;>simp
theorem zBS (g:zu):zme g=some (owG g,()):=by
 rw [zu8,zjR]
 simp only [zj]
 unfold owG
 by_cases c1:g.Out=0
 ·rw [if_pos c1]
  by_cases c2:1≤g.PC
  ·rw [if_pos c2]
   by_cases c3:g.PC≤2
   ·rw [if_pos c3,if_pos ⟨c1,by omega⟩];rfl
   ·rw [if_neg c3,if_neg (by omega)];rfl
  ·rw [if_neg c2,if_neg (by omega)];rfl
 ·rw [if_neg c1,if_neg (fun e=>c1 e.1)];rfl
theorem zlv {α:Type} (f:α→Int): ∀(l:List α) (a:Int),l.foldl (fun r x=>r+f x) a=a+(l.map f).sum
 | [],a=>by simp
 | x::l,a=>by rw [List.foldl_cons,zlv f l,List.map_cons,List.sum_cons];omega
theorem zp2 {α:Type} (c:α→Bool) (f g h:α→Int) (e: ∀x,h x=(bif c x then f x else 0)+g x): ∀l:List α,(l.map h).sum=((l.filter c).map f).sum+(l.map g).sum
 | []=>rfl
 | x::l=>by
  rw [List.map_cons,List.sum_cons,zp2 c f g h e l,List.filter_cons,e x,List.map_cons,List.sum_cons]
  cases c x<;>simp<;>omega
theorem zBO (s:za):WI s=((uR s).map owG).sum+(s.Ws.map fun x=>if x.PC=9 then (1:Int) else 0).sum+(s.Ms.map fun x=>if x.PC=39 then (1:Int) else 0).sum:=by
 have hW:=zp2 (fun x:zh=>decide (x.PC=6)) (fun x=>owG x.G) (fun x=>if x.PC=9 then (1:Int) else 0) owW (fun x=>by
  unfold owW
  by_cases c:x.PC=9
  ·rw [if_pos c,if_pos c,decide_eq_false (show ¬x.PC=6 by omega)];rfl
  ·rw [if_neg c,if_neg c]
   by_cases c6:x.PC=6
   ·rw [if_pos c6,decide_eq_true c6];show owG x.G=owG x.G+0;omega
   ·rw [if_neg c6,decide_eq_false c6];rfl) s.Ws
 have hX:=zp2 (fun x:zc=>decide (x.PC=3∨x.PC=37)) (fun x=>owG x.G) (fun x=>if x.PC=39 then (1:Int) else 0) owX (fun x=>by
  unfold owX
  by_cases c:x.PC=39
  ·rw [if_pos c,if_pos c,decide_eq_false (show ¬(x.PC=3∨x.PC=37) by omega)];rfl
  ·rw [if_neg c,if_neg c]
   by_cases c6:x.PC=3∨x.PC=37
   ·rw [if_pos c6,decide_eq_true c6];show owG x.G=owG x.G+0;omega
   ·rw [if_neg c6,decide_eq_false c6];rfl) s.Ms
 unfold WI uR
 rw [hW,hX,List.map_append,List.sum_append,List.map_map,List.map_map]
 have a1:(List.map (owG ∘ fun x:zh=>x.G) (s.Ws.filter fun x=>decide (x.PC=6)))=(s.Ws.filter fun x=>decide (x.PC=6)).map fun x=>owG x.G:=rfl
 have a2:(List.map (owG ∘ fun x:zc=>x.G) (s.Ms.filter fun x=>decide (x.PC=3∨x.PC=37)))=(s.Ms.filter fun x=>decide (x.PC=3∨x.PC=37)).map fun x=>owG x.G:=rfl
 rw [a1,a2]
 omega
theorem zvZ {s:za} (h1:s.Ws.length≤100) (h2:s.Ms.length≤100):zf1 s=some (WI s,()):=by
 rw [zvo,zoE h1 h2,Option.bind_some]
 dsimp only
 have hl:(uR s).length≤200:=by
  unfold uR
  rw [List.length_append,List.length_map,List.length_map]
  have:=List.length_filter_le (fun x:zh=>decide (x.PC=6)) s.Ws
  have:=List.length_filter_le (fun x:zc=>decide (x.PC=3∨x.PC=37)) s.Ms
  omega
 obtain ⟨e,b1,b2⟩:=Zo (f:=V6) (fun j r=>(r,((uR s).length:Int),j,s,uR s,())) (fun r=>(r,s,())) (uR s) (by omega) (fun r x=>r+owG x) (fun i r=>0≤r∧r≤(i:Int)) (s:=0) ⟨by omega,by omega⟩
  (fun i r x hx hi hr=>by
   have:=zyt x
   refine ⟨⟨by omega,by omega⟩,?_⟩
   show V6 (r,((uR s).length:Int),(i:Int),s,uR s,())=_
   rw [zhQ,zj,if_pos (by omega),wT (by omega) (by omega),Option.bind_some,Int.toNat_natCast,hx,Option.bind_some,zBS,Option.bind_some,yw (by omega),zS (by omega) (by omega)])
  (fun r hr=>by
   show V6 (r,((uR s).length:Int),((uR s).length:Int),s,uR s,())=_
   rw [zhQ,zj,if_neg (by omega)])
 rw [zlv] at e b1 b2
 rw [e,Option.bind_some]
 dsimp only
 generalize hr0:0+((uR s).map owG).sum=r0 at b1 b2
 obtain ⟨e,b3,b4⟩:=Zo (f:=VY) (fun j r=>(r,s.Ws,(s.Ws.length:Int),j,s,())) (fun r=>(r,s,())) s.Ws (by omega) (fun (r:Int) x=>r+if x.PC=9 then 1 else 0) (fun i r=>0≤r∧r≤200+(i:Int)) (s:=r0) ⟨by omega,by omega⟩
  (fun i r x hx hi hr=>by
   refine ⟨⟨by split<;>omega,by split<;>omega⟩,?_⟩
   show VY (r,s.Ws,(s.Ws.length:Int),(i:Int),s,())=_
   rw [zh3,zj,if_pos (by omega),xp hx,Option.bind_some,yw (by omega),zj]
   by_cases c:x.PC=9
   ·rw [if_pos c,if_pos c,zS (by omega) (by omega)]
   ·rw [if_neg c,if_neg c,show r+0=r by omega])
  (fun r hr=>by
   show VY (r,s.Ws,(s.Ws.length:Int),(s.Ws.length:Int),s,())=_
   rw [zh3,zj,if_neg (by omega)])
 rw [zlv] at e b3 b4
 rw [e,Option.bind_some]
 dsimp only
 generalize hr1:r0+(s.Ws.map fun x=>if x.PC=9 then (1:Int) else 0).sum=r1 at b3 b4
 obtain ⟨e,_⟩:=Zo (f:=WY) (fun j r=>(r,s.Ms,(s.Ms.length:Int),j,())) (fun r=>(r,())) s.Ms (by omega) (fun (r:Int) x=>r+if x.PC=39 then 1 else 0) (fun i r=>0≤r∧r≤400+(i:Int)) (s:=r1) ⟨by omega,by omega⟩
  (fun i r x hx hi hr=>by
   refine ⟨⟨by split<;>omega,by split<;>omega⟩,?_⟩
   show WY (r,s.Ms,(s.Ms.length:Int),(i:Int),())=_
   rw [zgP,zj,if_pos (by omega),xp hx,Option.bind_some,yw (by omega),zj]
   by_cases c:x.PC=39
   ·rw [if_pos c,if_pos c,zS (by omega) (by omega)]
   ·rw [if_neg c,if_neg c,show r+0=r by omega])
  (fun r hr=>by
   show WY (r,s.Ms,(s.Ms.length:Int),(s.Ms.length:Int),())=_
   rw [zgP,zj,if_neg (by omega)])
 rw [zlv] at e
 rw [e,Option.bind_some,zBO]
 dsimp only
 rw [←hr1,←hr0]
 congr 2
 omega
theorem zBB (s:za):0≤WI s∧WI s≤(s.Ws.length:Int)+(s.Ms.length:Int):=by
 have b: ∀ {α:Type} (f:α→Int),(∀x,0≤f x∧f x≤1)→∀l:List α,0≤(l.map f).sum∧(l.map f).sum≤(l.length:Int):=fun f hf l=>by
  induction l with
  | nil=>exact ⟨Int.le_refl _,Int.le_refl _⟩
  | cons x l ih =>
   have:=hf x
   rw [List.map_cons,List.sum_cons,List.length_cons];omega
 have h1:=b owW (fun x=>by
  have:=zyt x.G
  unfold owW;split
  ·omega
  ·split<;>omega) s.Ws
 have h2:=b owX (fun x=>by
  have:=zyt x.G
  unfold owX;split
  ·omega
  ·split<;>omega) s.Ms
 unfold WI;omega
end
end Go.Pe.G
namespace Go.Pe.G
open Go.Pe
noncomputable section
inductive Reach (h:zt) (R:BitVec 64):Int→Prop
 | root (o:Int) (h1:z5 R o=true) (h2:1≤o∧o≤(h.Objs.length:Int)):Reach h R o
 | step (o v:Int) (h1:Reach h R o) (h2:v∈zV h o) (h3:1≤v∧v≤(h.Objs.length:Int)):Reach h R v
theorem Reach.in {h:zt} {R:BitVec 64} {o:Int} (r:Reach h R o):1≤o∧o≤(h.Objs.length:Int):=by
 cases r with
 | root _ _ h2=>exact h2
 | step _ _ _ _ h3=>exact h3
theorem zAQ: ∀t:Fin 512,zn1 66 (BitVec.ofNat 64 t.1)=some (((List.range 9).filter fun i=>(BitVec.ofNat 64 t.1).getLsbD i).map fun i:Nat=>(i:Int)+1):=by decide +kernel
def Xn (s:BitVec 64):List Int:=((List.range 9).filter fun i=>s.getLsbD i).map fun i:Nat=>(i:Int)+1
theorem zEN: ∀t:Fin 512,Go.Lib.ctz 64 t.1≤64:=by decide +kernel
theorem zv0: ∀(f:Nat) (s:BitVec 64),s.toNat<512→VS f s=zn1 f s
 | 0,_,_=>rfl
 | f+1,s,h=>by
  simp only [VS,zn1]
  rw [zv0 f _ (by rw [BitVec.toNat_and];exact Nat.lt_of_le_of_lt Nat.and_le_left h)]
  have:Go.Lib.ctz 64 s.toNat≤64:=zEN ⟨s.toNat,h⟩
  have e:w64 (tz s+1)=((Go.Lib.ctz 64 s.toNat:Nat):Int)+1:=by
   unfold tz
   exact zS (by omega) (by omega)
  rw [e]
theorem zBv (s:BitVec 64) (o:Int):o∈Xn s↔1≤o∧o≤9∧z5 s o=true:=by
 unfold Xn
 rw [List.mem_map]
 constructor
 ·rintro ⟨i,hi,rfl⟩
  obtain ⟨a,b⟩:=List.mem_filter.1 hi
  have a:=List.mem_range.1 a
  exact ⟨by omega,by omega,(xK _ _).2 ⟨by omega,by omega,by rw [show ((i:Int)+1-1).toNat=i by omega];exact b⟩⟩
 ·rintro ⟨a,b,c⟩
  obtain ⟨_,_,d⟩:=(xK _ _).1 c
  exact ⟨(o-1).toNat,List.mem_filter.2 ⟨List.mem_range.2 (by omega),d⟩,by omega⟩
theorem zvW (s:BitVec 64):(Xn s).length≤9:=by
 unfold Xn
 rw [List.length_map]
 exact Nat.le_trans (List.length_filter_le _ _) (by simp)
theorem zCi {s:BitVec 64} (h: ∀o,z5 s o=true→o≤9):zee s=some (Xn s,()):=by
 obtain ⟨t,rfl⟩:=zBI h
 have e:zj3 (BitVec.ofNat 64 t.1)=some (Xn (BitVec.ofNat 64 t.1)):=by
  show VS 66 _=_
  rw [zv0 66 _ (by simp;omega),zAQ t];rfl
 have:=zvW (BitVec.ofNat 64 t.1)
 rw [zoC,zoy,Option.bind_some,e,Option.bind_some,zn0 _ _ (by simp;omega)]
 rfl
theorem zqy {α:Type} {l:List α} {n:Nat} {i:Int} (h:0≤i) (h1:i<l.length) (h2:i<n):zeJ l n i=some i.toNat:=by
 unfold zeJ;simp [h,h1,h2]
def mt (met:List Int) (o:Int):Int:=met.getD (o-1).toNat 0
def Wl (met:List Int):Nat:=met.countP (fun x=>decide (x=0))
theorem zsU {met:List Int} {o:Int} (h:1≤o∧o≤(met.length:Int)):met[(o-1).toNat]? =some (mt met o):=by
 have e:=List.getElem?_eq_getElem (show (o-1).toNat<met.length by omega)
 unfold mt
 rw [List.getD_eq_getElem?_getD,e];rfl
theorem zj8 {met:List Int} {o q x:Int} (h:1≤o∧o≤(met.length:Int)) (hq:1≤q):mt (met.set (o-1).toNat x) q=if q=o then x else mt met q:=by
 unfold mt
 rw [List.getD_eq_getElem?_getD,List.getD_eq_getElem?_getD,List.getElem?_set]
 by_cases e:q=o
 ·subst e;rw [if_pos rfl,if_pos rfl,if_pos (by omega)];rfl
 ·rw [if_neg (by omega),if_neg e]
theorem zCa {met:List Int} {o x:Int} (h:1≤o∧o≤(met.length:Int)) (h0:mt met o=0) (hx:x≠0):Wl (met.set (o-1).toNat x)+1=Wl met:=by
 have hl:(o-1).toNat<met.length:=by omega
 have e:met[(o-1).toNat]'hl=0:=by
  have:=zsU h
  rw [h0,List.getElem?_eq_getElem hl] at this
  exact Option.some.inj this
 have hm:(0:Int)∈met:=by rw [←e];exact List.getElem_mem hl
 have hp:0<Wl met:=List.countP_pos_iff.2 ⟨0,hm,by simp⟩
 unfold Wl at hp ⊢
 rw [List.countP_set hl,e]
 simp [hx]
 omega
structure RI (h:zt) (R:BitVec 64) (met wait:List Int):Prop where
 len:met.length=64
 val: ∀o,1≤o→0≤mt met o∧mt met o≤100-(Wl met:Int)
 rc: ∀o,1≤o→0<mt met o→Reach h R o
 rt: ∀o,z5 R o=true→1≤o∧o≤(h.Objs.length:Int)→0<mt met o
 wt: ∀o∈wait,(1≤o∧o≤(h.Objs.length:Int))∧0<mt met o
 cl: ∀o,1≤o→0<mt met o→o∉wait→∀v∈zV h o,1≤v∧v≤(h.Objs.length:Int)→0<mt met v
 zl:Wl met≤64
theorem zDg (met:List Int):Wl met≤met.length:=List.countP_le_length
theorem RI.add {h:zt} {R:BitVec 64} {met wait:List Int} {o v:Int} (hn:h.Objs.length≤9) (I:RI h R met wait) (ho:o∈wait) (hv:v∈zV h o) (hr:1≤v∧v≤(h.Objs.length:Int)) (h0:mt met v=0) :
  RI h R (met.set (v-1).toNat (mt met o+1)) (wait++[v])∧Wl (met.set (v-1).toNat (mt met o+1))+1=Wl met:=by
 obtain ⟨ho1,ho2⟩:=I.wt o ho
 have hlen:=I.len
 have hvl:1≤v∧v≤(met.length:Int):=by omega
 have hz:=zCa (x:=mt met o+1) hvl h0 (by omega)
 have hval:=I.val o ho1.1
 have hzl:=I.zl
 have key: ∀q,1≤q→0<mt met q→0<mt (met.set (v-1).toNat (mt met o+1)) q:=fun q hq hp=>by
  rw [zj8 hvl hq];split<;>omega
 refine ⟨⟨by rw [List.length_set];exact hlen,fun q hq=> ?_,fun q hq hp=> ?_,fun q a b=>key q b.1 (I.rt q a b),fun q hq=> ?_,fun q hq hp hw u hu hur=> ?_,by omega⟩,hz⟩
 ·have:=I.val q hq
  rw [zj8 hvl hq];split<;>omega
 ·rw [zj8 hvl hq] at hp
  split at hp
  ·rename_i e;subst e;exact .step o q (I.rc o ho1.1 ho2) hv hr
  ·exact I.rc q hq hp
 ·rcases List.mem_append.1 hq with hq | hq
  ·exact ⟨(I.wt q hq).1,key q (I.wt q hq).1.1 (I.wt q hq).2⟩
  ·simp at hq;subst hq
   refine ⟨hr,?_⟩
   rw [zj8 hvl hr.1,if_pos rfl];omega
 ·have hw1:q∉wait:=fun e=>hw (List.mem_append_left _ e)
  have hw2:q≠v:=fun e=>hw (by rw [e];simp)
  rw [zj8 hvl hq,if_neg hw2] at hp
  exact key u hur.1 (I.cl q hq hp hw1 u hu hur)
theorem RI.rm {h:zt} {R:BitVec 64} {met:List Int} {o:Int} {w:List Int} (I:RI h R met (o::w)) (hd: ∀v∈zV h o,1≤v∧v≤(h.Objs.length:Int)→0<mt met v):RI h R met w :=
 ⟨I.len,I.val,I.rc,I.rt,fun q hq=>I.wt q (List.mem_cons_of_mem _ hq),fun q hq hp hw v hv hr=>by
  by_cases e:q=o
  ·rw [e] at hv;exact hd v hv hr
  ·exact I.cl q hq hp (fun h=>(List.mem_cons.1 h).elim e hw) v hv hr,I.zl⟩
theorem zAj {h:zt} {R:BitVec 64} (hn:h.Objs.length≤9) {o:Int} {w0:List Int} {a7:List Int} (hs:(zV h o).length<1000000): ∀(n:Nat) (met added:List Int) (i:Nat),(zV h o).length-i=n→i≤(zV h o).length→RI h R met (o::w0++added)→(o::w0++added).length+Wl met≤200 →
  (∀v∈(zV h o).take i,1≤v∧v≤(h.Objs.length:Int)→0<mt met v)→∀m,n<m →
  ∃met' added',xr vb m (w8 (h.Objs.length:Int),o,zV h o,((zV h o).length:Int),(i:Int),h,a7,met,o::w0++added,())=some (.brk (w8 (h.Objs.length:Int),h,a7,met',o::w0++added',())) ∧
   RI h R met' (o::w0++added')∧(o::w0++added').length+Wl met'=(o::w0++added).length+Wl met∧Wl met'≤Wl met∧(∀v∈zV h o,1≤v∧v≤(h.Objs.length:Int)→0<mt met' v):=by
 intro n
 induction n with
 | zero =>
  intro met added i hk hi I hz hd m hm
  obtain ⟨m,rfl⟩: ∃x,m=x+1:=⟨m-1,by omega⟩
  have e:i=(zV h o).length:=by omega
  subst e
  rw [List.take_length] at hd
  refine ⟨met,added,?_,I,rfl,Nat.le_refl _,hd⟩
  rw [xr,YP,zj,if_neg (by omega)];rfl
 | succ n ih =>
  intro met added i hk hi I hz hd m hm
  obtain ⟨m,rfl⟩: ∃x,m=x+1:=⟨m-1,by omega⟩
  have hx:=List.getElem?_eq_getElem (show i<(zV h o).length by omega)
  generalize hxv:(zV h o)[i]'(by omega)=v at hx
  have hv:v∈zV h o:=List.mem_of_getElem? hx
  have hlen:=I.len
  have ho:=I.wt o (by simp)
  have hval:=I.val o ho.1.1
  have htk:(zV h o).take (i+1)=(zV h o).take i++[v]:=by rw [List.take_add_one,hx];rfl
  rw [xr,YP,zj,if_pos (by omega),xp hx,Option.bind_some,zqD,Option.bind_some]
  have hb:=zof hn v
  unfold z5 at hb
  by_cases hr:1≤v∧v≤(h.Objs.length:Int)
  ·have hb1:=hb.2 hr
   dsimp only
   rw [hb1,cond_true,zS (a:=v-1) (by omega) (by omega),zqy (by omega) (by omega) (by omega),Option.bind_some,zsU (by omega),Option.bind_some,zj]
   by_cases h0:mt met v=0
   ·rw [if_pos h0,zS (a:=o-1) (by omega) (by omega),zqy (by omega) (by omega) (by omega),Option.bind_some,zsU (by omega),Option.bind_some,Option.bind_some,yp (by rw [List.length_append];show _+1<_;omega),Option.bind_some,zS (a:=(i:Int)+1) (by omega) (by omega),zS (a:=mt met o+1) (by omega) (by omega),Option.bind_some]
    obtain ⟨I',hz'⟩:=I.add hn (by simp) hv hr h0
    dsimp only
    rw [List.append_assoc] at I' ⊢
    have hz2:(o::w0++(added++[v])).length=(o::w0++added).length+1:=by simp;omega
    obtain ⟨met',added',e1,e2,e3,e4,e5⟩:=ih (met.set (v-1).toNat (mt met o+1)) (added++[v]) (i+1) (by omega) (by omega) I' (by omega) (fun q hq hqr=>by
     rw [zj8 (by omega) hqr.1]
     split
     ·omega
     ·rename_i hne
      rw [htk] at hq
      rcases List.mem_append.1 hq with hq | hq
      ·exact hd q hq hqr
      ·simp at hq;exact absurd hq hne) m (by omega)
    refine ⟨met',added',?_,e2,by omega,by omega,e5⟩
    have:((i+1:Nat):Int)=(i:Int)+1:=by omega
    rw [←this]
    exact e1
   ·rw [if_neg h0,zS (a:=(i:Int)+1) (by omega) (by omega),Option.bind_some]
    have hp:0<mt met v:=by have:=I.val v hr.1;omega
    obtain ⟨met',added',e1,e2⟩:=ih met added (i+1) (by omega) (by omega) I hz (fun q hq hqr=>by
     rw [htk] at hq
     rcases List.mem_append.1 hq with hq | hq
     ·exact hd q hq hqr
     ·simp at hq;rw [hq];exact hp) m (by omega)
    refine ⟨met',added',?_,e2⟩
    have:((i+1:Nat):Int)=(i:Int)+1:=by omega
    rw [←this]
    exact e1
  ·have hb1:(!(decide (w8 (h.Objs.length:Int)&&&bit v=0#64)))=false:=by
    cases hc:(!(decide (w8 (h.Objs.length:Int)&&&bit v=0#64))) with
    | false=>rfl
    | true=>exact absurd (hb.1 hc) hr
   dsimp only
   rw [hb1,cond_false,zS (a:=(i:Int)+1) (by omega) (by omega),Option.bind_some]
   obtain ⟨met',added',e1,e2⟩:=ih met added (i+1) (by omega) (by omega) I hz (fun q hq hqr=>by
    rw [htk] at hq
    rcases List.mem_append.1 hq with hq | hq
    ·exact hd q hq hqr
    ·simp at hq;rw [hq] at hqr;exact absurd hqr hr) m (by omega)
   refine ⟨met',added',?_,e2⟩
   have:((i+1:Nat):Int)=(i:Int)+1:=by omega
   rw [←this]
   exact e1
theorem zrP {A B D:Type} {f:A→Option (yA A B D)} {x:A} {b:B} {n:Nat} (h:xr f n x=some (.brk b)) (hn:n≤vO):zO f x=some (.brk b):=by
 rw [XL]
 have key: ∀(n m:Nat) (x:A),xr f n x=some (.brk b)→n≤m→xr f m x=some (.brk b):=by
  intro n
  induction n with
  | zero=>intro m x h;cases h
  | succ n ih =>
   intro m x h hm
   obtain ⟨m,rfl⟩: ∃q,m=q+1:=⟨m-1,by omega⟩
   simp only [xr,Option.bind_eq_some_iff] at h ⊢
   obtain ⟨s,h1,h2⟩:=h
   refine ⟨s,h1,?_⟩
   cases s with
   | again y=>exact ih m y h2 (by omega)
   | brk b'=>exact h2
   | ret c=>exact h2
 exact key n vO x h hn
theorem zDc {h:zt} {R:BitVec 64} (hn:h.Objs.length≤9) (hs: ∀o,(zV h o).length<1000000) {a7:List Int}: ∀(n:Nat) (met wait:List Int),wait.length+2*Wl met≤n→wait.length+Wl met≤200→RI h R met wait→∀m,n<m →
  ∃met',xr ZB m (w8 (h.Objs.length:Int),h,a7,met,wait,())=some (.brk (a7,met',()))∧RI h R met' []:=by
 intro n
 induction n with
 | zero =>
  intro met wait hz hz2 I m hm
  obtain ⟨m,rfl⟩: ∃x,m=x+1:=⟨m-1,by omega⟩
  have:wait=[]:=List.eq_nil_of_length_eq_zero (by omega)
  subst this
  refine ⟨met,?_,I⟩
  rw [xr,uF,zj,if_neg (by simp)];rfl
 | succ n ih =>
  intro met wait hz hz2 I m hm
  obtain ⟨m,rfl⟩: ∃x,m=x+1:=⟨m-1,by omega⟩
  cases wait with
  | nil =>
   refine ⟨met,?_,I⟩
   rw [xr,uF,zj,if_neg (by simp)];rfl
  | cons o w =>
   have ho:=(I.wt o (by simp)).1
   have hso:=hs o
   have eo:=List.getElem?_eq_getElem (show (o-1).toNat<h.Objs.length by omega)
   have es:h.Objs[(o-1).toNat]'(by omega)=zV h o:=by unfold zV;rw [List.getD_eq_getElem?_getD,eo];rfl
   obtain ⟨met',added',e1,e2,e3,e4,e5⟩:=zAj (a7:=a7) hn (o:=o) (w0:=w) hso _ met [] 0 rfl (Nat.zero_le _) (by simpa using I) (by simpa using hz2) (fun v hv=>by simp at hv) ((zV h o).length+1) (by omega)
   simp only [List.append_nil,Int.natCast_zero] at e1 e3
   have e1:xr vb ((zV h o).length+1) (w8 (h.Objs.length:Int),o,zV h o,((zV h o).length:Int),0,h,a7,met,o::w,())=some (.brk (w8 (h.Objs.length:Int),h,a7,met',o::w++added',())):=e1
   have hidx:xt (o::w) 0=some 0:=by rw [wT (by omega) (by simp)];rfl
   rw [xr,uF,zj,if_pos (by simp),hidx,Option.bind_some]
   simp only [List.getElem?_cons_zero,Option.bind_some,zqV,Bool.not_true,cond_false]
   rw [zS (a:=o-1) (by omega) (by omega),wY (by omega),eo,Option.bind_some,es,zrP e1 (by have:vO=18446744073709551616:=rfl;omega)]
   dsimp only [Option.bind_some]
   rw [List.cons_append,zrF,Option.bind_some,Option.bind_some]
   dsimp only
   rw [List.cons_append] at e2
   exact ih met' (w++added') (by simp at e3 hz ⊢;omega) (by simp at e3 hz2 ⊢;omega) (e2.rm e5) m (by omega)
theorem zEi (o:Int):mt (List.replicate 64 (0:Int)) o=0:=by
 unfold mt
 rw [List.getD_eq_getElem?_getD,List.getElem?_replicate];split<;>rfl
theorem zAv {h:zt} {a1:BitVec 64} {a5:List Int}: ∀(n i:Nat) (l met:List Int),l.length-i=n→i≤l.length→l.length<1000000→(∀o∈l,1≤o∧o≤9)→met.length=64→(∀o,1≤o→mt met o=if o∈l.take i then 1 else 0)→∀m,n<m →
  ∃met',xr ZA m (a1,(l.length:Int),(i:Int),h,a5,met,l,())=some (.brk (a1,h,a5,met',l,()))∧met'.length=64∧∀o,1≤o→mt met' o=if o∈l then 1 else 0:=by
 intro n
 induction n with
 | zero =>
  intro i l met hk hi hl hr hm ht m hm2
  obtain ⟨m,rfl⟩: ∃x,m=x+1:=⟨m-1,by omega⟩
  have e:i=l.length:=by omega
  subst e
  rw [List.take_length] at ht
  refine ⟨met,?_,hm,ht⟩
  rw [xr,Xd,zj,if_neg (by omega)];rfl
 | succ n ih =>
  intro i l met hk hi hl hr hm ht m hm2
  obtain ⟨m,rfl⟩: ∃x,m=x+1:=⟨m-1,by omega⟩
  have hx:=List.getElem?_eq_getElem (show i<l.length by omega)
  generalize hxv:l[i]'(by omega)=v at hx
  have hv:=hr v (List.mem_of_getElem? hx)
  have htk:l.take (i+1)=l.take i++[v]:=by rw [List.take_add_one,hx];rfl
  rw [xr,Xd,zj,if_pos (by omega),wT (by omega) (by omega),Option.bind_some,Int.toNat_natCast,hx,Option.bind_some,zS (a:=v-1) (by omega) (by omega),zqy (by omega) (by omega) (by omega),Option.bind_some,zS (a:=(i:Int)+1) (by omega) (by omega),Option.bind_some]
  obtain ⟨met',e1,e2⟩:=ih (i+1) l (met.set (v-1).toNat 1) (by omega) (by omega) hl hr (by rw [List.length_set];exact hm) (fun o ho=>by
   rw [zj8 (by omega) ho,ht o ho,htk]
   by_cases e:o=v
   ·rw [if_pos e,if_pos (by rw [e];simp)]
   ·rw [if_neg e]
    by_cases e2:o∈l.take i
    ·rw [if_pos e2,if_pos (List.mem_append_left _ e2)]
    ·rw [if_neg e2,if_neg (fun h=>(List.mem_append.1 h).elim e2 (fun h=>e (by simpa using h)))]) m (by omega)
  refine ⟨met',?_,e2⟩
  have:((i+1:Nat):Int)=(i:Int)+1:=by omega
  rw [←this]
  exact e1
theorem zzt {met:List Int} (hl:met.length=64): ∃S,zcs met=some (S,())∧∀o,z5 S o=true↔1≤o∧0<mt met o:=by
 rw [zoW,zj,if_pos hl]
 have key:=xZ (f:=U3) (fun a=>∃(i:Nat) (S:BitVec 64),i≤64∧a=(S,met,(i:Int),())∧∀o,z5 S o=true↔(1≤o∧o≤(i:Int))∧0<mt met o) (fun a=>64-a.2.2.1.toNat) (fun o=>∃S,o= .brk (S,())∧∀o,z5 S o=true↔1≤o∧0<mt met o) (by
  rintro _ ⟨i,S,hi,rfl,hS⟩
  rw [zl5,zj]
  by_cases c:(i:Int)<64
  ·have hx:=zsU (met:=met) (o:=(i:Int)+1) (by omega)
   rw [show ((i:Int)+1-1).toNat=i by omega] at hx
   rw [if_pos c,zqy (by omega) (by omega) c,Option.bind_some,Int.toNat_natCast,hx,Option.bind_some,zj,zS (a:=(i:Int)+1) (by omega) (by omega),zeV,Option.bind_some]
   by_cases hp:0<mt met ((i:Int)+1)
   ·rw [if_pos hp]
    refine ⟨_,rfl,⟨i+1,_,by omega,rfl,fun o=> ?_⟩,?_⟩
    ·dsimp only
     rw [wb _ (by omega),hS o]
     constructor
     ·rintro (⟨a,b⟩ | rfl)
      ·exact ⟨by omega,b⟩
      ·exact ⟨by omega,hp⟩
     ·rintro ⟨a,b⟩
      by_cases e:o=(i:Int)+1
      ·exact .inr e
      ·exact .inl ⟨by omega,b⟩
    ·show 64-((i:Int)+1).toNat<64-(i:Int).toNat
     omega
   ·rw [if_neg hp]
    refine ⟨_,rfl,⟨i+1,S,by omega,rfl,fun o=> ?_⟩,?_⟩
    ·rw [hS o]
     constructor
     ·rintro ⟨a,b⟩;exact ⟨by omega,b⟩
     ·rintro ⟨a,b⟩
      by_cases e:o=(i:Int)+1
      ·rw [e] at b;exact absurd b hp
      ·exact ⟨by omega,b⟩
    ·show 64-((i:Int)+1).toNat<64-(i:Int).toNat
     omega
  ·rw [if_neg c]
   refine ⟨_,rfl,S,rfl,fun o=> ?_⟩
   rw [hS o]
   have hi:i=64:=by omega
   subst hi
   constructor
   ·rintro ⟨a,b⟩;exact ⟨a.1,b⟩
   ·rintro ⟨a,b⟩
    refine ⟨⟨a,?_⟩,b⟩
    by_cases h:64<o
    ·exfalso
     unfold mt at b
     rw [List.getD_eq_getElem?_getD,List.getElem?_eq_none (by omega)] at b
     exact absurd b (by show ¬(0:Int)<0;decide)
    ·show o≤64;omega) (0#64,met,0,()) ⟨0,0#64,by omega,rfl,fun o=>⟨fun e=>absurd e (WN o),fun e=>by have:=e.1;omega⟩⟩ (by show 64-0<18446744073709551616;decide)
 obtain ⟨o,e,S,rfl,hS⟩:=key
 refine ⟨S,?_,hS⟩
 exact congrArg (fun o=>Option.bind o _) e
theorem zxo {h:zt} (hn:h.Objs.length≤9) (hs: ∀l∈h.Objs,l.length<1000000) (R:BitVec 64): ∃S,zaL h R=some (S,())∧∀o,z5 S o=true↔Reach h R o:=by
 have hso: ∀o,(zV h o).length<1000000:=fun o=>by
  unfold zV
  rw [List.getD_eq_getElem?_getD]
  cases hx:h.Objs[(o-1).toNat]? with
  | none=>show ([]:List Int).length<_;simp
  | some l=>exact hs l (List.mem_of_getElem? hx)
 have hF:=fun o=>zof hn o
 have hA: ∀o,z5 (R&&&w8 (h.Objs.length:Int)) o=true↔z5 R o=true∧1≤o∧o≤(h.Objs.length:Int):=fun o=>by rw [zcz,hF]
 have h9: ∀o,z5 (R&&&w8 (h.Objs.length:Int)) o=true→o≤9:=fun o e=>by have:=(hA o).1 e;omega
 have hw:=zBv (R&&&w8 (h.Objs.length:Int))
 have hwl:=zvW (R&&&w8 (h.Objs.length:Int))
 generalize hwd:Xn (R&&&w8 (h.Objs.length:Int))=wait at hw hwl
 obtain ⟨met,e1,m1,m2⟩:=zAv (h:=h) (a1:=w8 (h.Objs.length:Int)) (a5:=List.replicate 64 (0:Int)) wait.length 0 wait (List.replicate 64 (0:Int)) rfl (Nat.zero_le _) (by omega) (fun o ho=>by have:=(hw o).1 ho;omega) (by simp) (fun o _=>by rw [zEi];simp) (wait.length+1) (by omega)
 have hz:=zDg met
 have I:RI h R met wait:=by
  refine ⟨m1,fun o ho=> ?_,fun o ho hp=> ?_,fun o ho hr=> ?_,fun o ho=> ?_,fun o ho hp hno=> ?_,by omega⟩
  ·rw [m2 o ho];split<;>omega
  ·rw [m2 o ho] at hp
   split at hp
   ·rename_i hm
    have a:=(hA o).1 ((hw o).1 hm).2.2
    exact .root o a.1 a.2
   ·omega
  ·rw [m2 o hr.1,if_pos ((hw o).2 ⟨hr.1,by omega,(hA o).2 ⟨ho,hr⟩⟩)];decide
  ·have a:=(hA o).1 ((hw o).1 ho).2.2
   refine ⟨a.2,?_⟩
   rw [m2 o a.2.1,if_pos ho];decide
  ·rw [m2 o ho,if_neg hno] at hp;omega
 obtain ⟨met',e2,I'⟩:=zDc (a7:=List.replicate 64 (0:Int)) hn hso (wait.length+2*Wl met) met wait (Nat.le_refl _) (by omega) I (wait.length+2*Wl met+1) (by omega)
 obtain ⟨S,e3,hS⟩:=zzt I'.len
 refine ⟨S,?_,fun o=> ?_⟩
 ·have hrd:vO=18446744073709551616:=rfl
  have ew:Z9 h R=some (met',()):=by
   rw [zc6,zvM _ (by omega),Option.bind_some,zCi h9,Option.bind_some,hwd]
   refine (congrArg (fun o=>Option.bind o _) (zrP e1 (by omega))).trans ?_
   rw [Option.bind_some]
   dsimp only
   refine (congrArg (fun o=>Option.bind o _) (zrP e2 (by omega))).trans ?_
   rw [Option.bind_some]
   dsimp only
   rw [zj,zj,zj,if_pos I'.len,if_pos (by simp),if_pos I'.len]
  rw [ztr,ew,Option.bind_some,e3];rfl
 ·rw [hS o]
  constructor
  ·rintro ⟨a,b⟩;exact I'.rc o a b
  ·intro r
   induction r with
   | root o h1 h2=>exact ⟨h2.1,I'.rt o h1 h2⟩
   | step o v _ h2 h3 ih=>exact ⟨h3.1,I'.cl o ih.1 ih.2 (by simp) v h2 h3⟩
def zqq (h:zt) (R:BitVec 64):BitVec 64:=match zaL h R with | some x=>x.1 | none=>0#64
theorem zAM {h:zt} (hn:h.Objs.length≤9) (hs: ∀l∈h.Objs,l.length<1000000) (R:BitVec 64):zaL h R=some (zqq h R,()):=by
 obtain ⟨S,e,_⟩:=zxo hn hs R
 unfold zqq
 rw [e]
theorem zBC {h:zt} (hn:h.Objs.length≤9) (hs: ∀l∈h.Objs,l.length<1000000) (R:BitVec 64) (o:Int):z5 (zqq h R) o=true↔Reach h R o:=by
 obtain ⟨S,e,h2⟩:=zxo hn hs R
 unfold zqq
 rw [e]
 exact h2 o
end
end Go.Pe.G
namespace Go.Pe.G
open Go.Pe
noncomputable section
theorem zx9 (s:BitVec 64):List.Pairwise (fun a b:Int=>a≤b) (Xn s):=by
 unfold Xn
 rw [List.pairwise_map]
 refine (List.Pairwise.filter _ (List.pairwise_lt_range (n:=9))).imp (fun h=> ?_)
 omega
theorem zzc (s:BitVec 64):(Xn s).Nodup:=by
 unfold Xn
 have:List.Pairwise (fun a b:Int=>a≠b) (((List.range 9).filter fun i=>s.getLsbD i).map fun i:Nat=>(i:Int)+1):=by
  rw [List.pairwise_map]
  refine (List.Pairwise.filter _ (List.pairwise_lt_range (n:=9))).imp (fun h=> ?_)
  omega
 exact this
theorem zBL {s:BitVec 64} {o:Int}:o∈Xn s↔z5 s o=true∧o≤9:=by
 unfold Xn
 rw [List.mem_map]
 constructor
 ·rintro ⟨i,hi,rfl⟩
  rw [List.mem_filter,List.mem_range] at hi
  refine ⟨(xK _ _).2 ⟨by omega,by omega,?_⟩,by omega⟩
  rw [show ((i:Int)+1-1).toNat=i by omega];exact hi.2
 ·rintro ⟨h,h9⟩
  obtain ⟨a,b,c⟩:=(xK _ _).1 h
  exact ⟨(o-1).toNat,List.mem_filter.2 ⟨List.mem_range.2 (by omega),c⟩,by omega⟩
def zd5 (s:za):BitVec 64:=s.T.Marks&&& ~~~s.T.Black
theorem zv9 {s:za} (o:Int):z5 (zd5 s) o=true↔wR s.T o=1:=by
 unfold zd5
 rw [zcz,WV]
 constructor
 ·rintro ⟨a,b⟩
  have:=(xK _ _).1 a
  exact ⟨a,(zr1 _ ⟨this.1,this.2.1⟩).1 b⟩
 ·rintro ⟨a,b⟩
  have:=(xK _ _).1 a
  exact ⟨a,(zr1 _ ⟨this.1,this.2.1⟩).2 b⟩
theorem zC5 {p:zb} (h:zB p) {nb k:Nat} {s:za} {gh:Gh} (G:FG p nb k s gh):List.Perm (vu p s gh) (Xn (zd5 s)):=by
 refine (List.perm_ext_iff_of_nodup G.B.nd (zzc _)).2 (fun o=> ?_)
 rw [zBL,zv9,G.B.gr]
 exact ⟨fun e=>⟨e,((G.bag9 h).2 o ((G.B.gr o).2 e)).2⟩,fun e=>e.1⟩
theorem zCX {p:zb} (h:zB p) {nb k:Nat} {s:za} {gh:Gh} (G:FG p nb k s gh):uk (vu p s gh)=Xn (zd5 s) :=
 zo1 (zbO _) (zx9 _) ((WO _).trans (zC5 h G))
theorem zxw {p:zb} (h:zB p) {k:Nat} {s:za} {gh:Gh} (G:FG p (zQ p+1) k s gh):UU s=some (Xn (zd5 s),()):=by
 rw [zCk h G,zCX h G]
theorem zCz {p:zb} (h:zB p) {nb k:Nat} {s:za} {gh:Gh} (G:FG p nb k s gh):cnt (zd5 s)=((vu p s gh).length:Int):=by
 obtain ⟨e1,e2⟩:=zEu (G.bag9 h).2 G.B.nd
 have:zao (vu p s gh)=zd5 s:=zvy (fun o=>by rw [e2,G.B.gr,zv9])
 rw [←this,e1]
def atS (g:zu) (a b v:Int):Int:=if g.Out=0 then (if a≤g.PC then (if g.PC≤b then v else 0) else 0) else 0
theorem zCv (g:zu):zmm g=some (atS g 0 1 g.Obj,()):=by
 rw [zvr,zjR]
 simp only [zj]
 unfold atS
 split
 ·split
  ·split<;>rfl
  ·rfl
 ·rfl
def zjG (x:zc):Prop:=x.PC=21∨x.PC=22∨(x.Ret=22∧(x.PC=1∨x.PC=3))
instance (x:zc):Decidable (zjG x):=by unfold zjG;infer_instance
def zuS (a:BitVec 64) (x:zc):BitVec 64:=if zjG x then (a|||zao x.Buf)|||bit x.Old else a|||zao x.Buf
def ztj (s:za):BitVec 64:=s.Ms.foldl zuS ((uR s).foldl (fun a g=>a|||bit (atS g 0 1 g.Obj)) 0#64)
theorem zdZ {s:za} (hs:Yj s) (h1:s.Ws.length≤100) (h2:s.Ms.length≤100):XF s=some (ztj s,()):=by
 rw [zq4,zoE h1 h2,Option.bind_some]
 dsimp only
 have hl:(uR s).length≤200:=by
  unfold uR
  rw [List.length_append,List.length_map,List.length_map]
  have:=List.length_filter_le (fun x:zh=>decide (x.PC=6)) s.Ws
  have:=List.length_filter_le (fun x:zc=>decide (x.PC=3∨x.PC=37)) s.Ms
  omega
 obtain ⟨e,_⟩:=Zo (f:=Xk) (fun j r=>(r,((uR s).length:Int),j,s,uR s,())) (fun r=>(r,s,())) (uR s) (by omega) (fun (a:BitVec 64) g=>a|||bit (atS g 0 1 g.Obj)) (fun _ _=>True) (s:=0#64) trivial
  (fun i r x hx hi hr=>by
   refine ⟨trivial,?_⟩
   show Xk (r,((uR s).length:Int),(i:Int),s,uR s,())=_
   rw [zdG,zj,if_pos (by omega),wT (by omega) (by omega),Option.bind_some,Int.toNat_natCast,hx,Option.bind_some,zCv,Option.bind_some,zeV,Option.bind_some,yw (by omega)])
  (fun r hr=>by
   show Xk (r,((uR s).length:Int),((uR s).length:Int),s,uR s,())=_
   rw [zdG,zj,if_neg (by omega)])
 rw [e,Option.bind_some]
 dsimp only
 obtain ⟨e,_⟩:=Zo (f:=Xc) (fun j r=>(r,s.Ms,(s.Ms.length:Int),j,())) (fun r=>(r,())) s.Ms (by omega) zuS (fun _ _=>True) (s:=(uR s).foldl (fun (a:BitVec 64) g=>a|||bit (atS g 0 1 g.Obj)) 0#64) trivial
  (fun i r x hx hi hr=>by
   refine ⟨trivial,?_⟩
   show Xc (r,s.Ms,(s.Ms.length:Int),(i:Int),())=_
   rw [zdU,zj,if_pos (by omega),xp hx,Option.bind_some,zyN (hs.mu x (List.mem_of_getElem? hx)).2.1,Option.bind_some,yw (by omega),zeV,Option.bind_some]
   simp only [zj]
   unfold zuS
   by_cases c1:x.PC=21
   ·rw [if_pos c1,if_pos (show zjG x from .inl c1)]
   rw [if_neg c1]
   by_cases c2:x.PC=22
   ·rw [if_pos c2,if_pos (show zjG x from .inr (.inl c2))]
   rw [if_neg c2]
   by_cases c3:x.Ret=22
   ·rw [if_pos c3]
    by_cases c4:x.PC=1
    ·rw [if_pos c4,if_pos (show zjG x from .inr (.inr ⟨c3,.inl c4⟩))]
    rw [if_neg c4]
    by_cases c5:x.PC=3
    ·rw [if_pos c5,if_pos (show zjG x from .inr (.inr ⟨c3,.inr c5⟩))]
    ·rw [if_neg c5,if_neg (show ¬zjG x by unfold zjG;omega)]
   ·rw [if_neg c3,if_neg (show ¬zjG x by unfold zjG;omega)])
  (fun r hr=>by
   show Xc (r,s.Ms,(s.Ms.length:Int),(s.Ms.length:Int),())=_
   rw [zdU,zj,if_neg (by omega)])
 rw [e];rfl
def zua (a:BitVec 64) (l:List zc):BitVec 64:=l.foldl (fun a x=>a|||zao x.Regs) a
theorem zvQ {s:za} (hs:Yj s):zf8 s=some (zua 0#64 s.Ms,()):=by
 have hl:=hs.ms
 rw [zvu]
 obtain ⟨e,_⟩:=Zo (f:=VP) (fun j r=>(r,s.Ms,(s.Ms.length:Int),j,())) (fun r=>(r,())) s.Ms hl (fun (a:BitVec 64) x=>a|||zao x.Regs) (fun _ _=>True) (s:=0#64) trivial
  (fun i r x hx hi hr=>by
   refine ⟨trivial,?_⟩
   show VP (r,s.Ms,(s.Ms.length:Int),(i:Int),())=_
   rw [zhX,zj,if_pos (by omega),xp hx,Option.bind_some,zyN (hs.mu x (List.mem_of_getElem? hx)).1,Option.bind_some,yw (by omega)])
  (fun r hr=>by
   show VP (r,s.Ms,(s.Ms.length:Int),(s.Ms.length:Int),())=_
   rw [zhX,zj,if_neg (by omega)])
 rw [e];rfl
def ztD (s:za):BitVec 64:=zqq s.H (s.P.Roots|||zua 0#64 s.Ms)
theorem zwi {s:za} (hs:Yj s) (hn:s.H.Objs.length≤9):zf4 s=some (ztD s,()):=by
 rw [zvk,zvQ hs,Option.bind_some,zAM hn hs.obj,Option.bind_some];rfl
def zlR (x:zh):Bool:= !decide (x.Obj=0)||decide (0<(x.Batch.length:Int))
def znu (x:zc):Bool:= !decide (x.Obj=0)||decide (0<(x.Batch.length:Int)+(x.Buf.length:Int))
theorem zD2 {l:List zh} (hl:l.length<1000000):yP l=some (l.any zlR,()):=by
 rw [uT,Ze]
 obtain ⟨o,e,ho⟩:=xZ (f:=yO) (fun a=>∃i:Nat,i≤l.length∧a=(l,(l.length:Int),(i:Int),())∧l.any zlR=(l.drop i).any zlR) (fun a=>l.length-a.2.2.1.toNat) (fun o=>(o= .brk ()∧l.any zlR=false)∨∃i:Nat,o= .ret ((i:Int),())∧l.any zlR=true) (by
  rintro _ ⟨i,hi,rfl,ha⟩
  rw [uS,zj]
  by_cases c1:(i:Int)<(l.length:Int)
  ·have hx:=List.getElem?_eq_getElem (show i<l.length by omega)
   have hd:=List.drop_eq_getElem_cons (show i<l.length by omega)
   generalize l[i]'(by omega)=x at hx hd
   rw [hd,List.any_cons] at ha
   have hq:zfd x=some (zlR x,()):=by
    rw [zqK];unfold zlR
    cases decide (x.Obj=0)<;>rfl
   rw [if_pos c1,xp hx,Option.bind_some,hq,Option.bind_some]
   cases hc:zlR x with
   | true=>exact ⟨_,rfl,.inr ⟨i,rfl,by rw [ha,hc];rfl⟩⟩
   | false =>
    rw [yw (by omega)]
    refine ⟨_,rfl,⟨i+1,by omega,rfl,by rw [ha,hc];rfl⟩,?_⟩
    show l.length-((i+1:Nat):Int).toNat<l.length-(i:Int).toNat
    omega
  ·rw [if_neg c1]
   have:i=l.length:=by omega
   subst this
   rw [List.drop_length] at ha
   exact ⟨_,rfl,.inl ⟨rfl,ha⟩⟩) (l,(l.length:Int),0,()) ⟨0,by omega,rfl,rfl⟩ (by show l.length-0<18446744073709551616;omega)
 rw [e]
 rcases ho with ⟨rfl,hn⟩ | ⟨i,rfl,hn⟩
 ·rw [hn];rfl
 ·rw [hn]
  show some (decide ((0:Int)≤(i:Int)),())=_
  rw [decide_eq_true (by omega)]
theorem zEl {l:List zc} (hl:l.length<1000000) (hb: ∀x∈l,x.Buf.length<1000000∧x.Batch.length<1000000):yG l=some (l.any znu,()):=by
 rw [uz,u5]
 obtain ⟨o,e,ho⟩:=xZ (f:=yK) (fun a=>∃i:Nat,i≤l.length∧a=(l,(l.length:Int),(i:Int),())∧l.any znu=(l.drop i).any znu) (fun a=>l.length-a.2.2.1.toNat) (fun o=>(o= .brk ()∧l.any znu=false)∨∃i:Nat,o= .ret ((i:Int),())∧l.any znu=true) (by
  rintro _ ⟨i,hi,rfl,ha⟩
  rw [uC,zj]
  by_cases c1:(i:Int)<(l.length:Int)
  ·have hx:=List.getElem?_eq_getElem (show i<l.length by omega)
   have hd:=List.drop_eq_getElem_cons (show i<l.length by omega)
   have hm:=List.getElem_mem (show i<l.length by omega)
   generalize l[i]'(by omega)=x at hx hd hm
   rw [hd,List.any_cons] at ha
   have hbx:=hb x hm
   have hq:zfw x=some (znu x,()):=by
    rw [zrb,zS (by omega) (by omega)];unfold znu
    cases decide (x.Obj=0)<;>rfl
   rw [if_pos c1,xp hx,Option.bind_some,hq,Option.bind_some]
   cases hc:znu x with
   | true=>exact ⟨_,rfl,.inr ⟨i,rfl,by rw [ha,hc];rfl⟩⟩
   | false =>
    rw [yw (by omega)]
    refine ⟨_,rfl,⟨i+1,by omega,rfl,by rw [ha,hc];rfl⟩,?_⟩
    show l.length-((i+1:Nat):Int).toNat<l.length-(i:Int).toNat
    omega
  ·rw [if_neg c1]
   have:i=l.length:=by omega
   subst this
   rw [List.drop_length] at ha
   exact ⟨_,rfl,.inl ⟨rfl,ha⟩⟩) (l,(l.length:Int),0,()) ⟨0,by omega,rfl,rfl⟩ (by show l.length-0<18446744073709551616;omega)
 rw [e]
 rcases ho with ⟨rfl,hn⟩ | ⟨i,rfl,hn⟩
 ·rw [hn];rfl
 ·rw [hn]
  show some (decide ((0:Int)≤(i:Int)),())=_
  rw [decide_eq_true (by omega)]
def zs0 (s:za):Bool:=(Xn (zd5 s)).isEmpty&& !(s.Ws.any zlR)&& !(s.Ms.any znu)
theorem zs1 {p:zb} (h:zB p) {k:Nat} {s:za} {gh:Gh} (G:FG p (zQ p+1) k s gh):zdb s=some (zs0 s,()):=by
 have hs:=G.E.small
 rw [zs5,zxw h G,Option.bind_some,zD2 hs.ws,Option.bind_some,zEl hs.ms (fun x hx=>(hs.mu x hx).2),Option.bind_some]
 unfold zs0
 dsimp only
 cases hl:Xn (zd5 s) with
 | nil =>
  show (bif decide ((0:Int)=0) then _ else _)=_
  rw [decide_eq_true rfl,cond_true]
  cases s.Ws.any zlR<;>rfl
 | cons a l =>
  rw [decide_eq_false (show ¬(((a::l).length:Nat):Int)=0 by rw [List.length_cons];omega)];rfl
end
end Go.Pe.G
namespace Go.Pe.G
open Go.Pe
noncomputable section
theorem zDo: ∀t:Fin 64,cnt (BitVec.ofNat 64 t.1)=((Wf (BitVec.ofNat 64 t.1)).length:Int):=by decide +kernel
theorem zBu {s:BitVec 64} (h:s&&& ~~~63#64=0#64):cnt s=((Wf s).length:Int):=by
 have hs:s.toNat<64:=by
  have e:s=s&&&63#64:=by
   have:s=(s&&&63#64)|||(s&&& ~~~63#64):=by
    apply BitVec.eq_of_getLsbD_eq
    intro i hi
    simp only [BitVec.getLsbD_or,BitVec.getLsbD_and,BitVec.getLsbD_not]
    cases s.getLsbD i<;>cases (63#64:BitVec 64).getLsbD i<;>simp [hi]
   rw [h,BitVec.or_zero] at this
   exact this
  rw [e,BitVec.toNat_and]
  have:s.toNat&&&(63#64:BitVec 64).toNat≤(63#64:BitVec 64).toNat:=Nat.and_le_right
  have e63:(63#64:BitVec 64).toNat=63:=by decide
  omega
 have:=zDo ⟨s.toNat,hs⟩
 have e:BitVec.ofNat 64 s.toNat=s:=by simp
 rw [e] at this
 exact this
theorem zsG {p:zb} (h:zB p):EG p (zQ p+1) 0 (yv p) (gh0 p):=by
 have hms: ∀x∈(yv p).Ms,x.PC=0:=fun x hx=>by
  obtain ⟨r,_,e⟩:=List.mem_map.1 (show x∈p.Regs.map vJ from hx)
  rw [←e];rfl
 have hws: ∀x∈(yv p).Ws,∃i:Nat,x=uu p i:=fun x hx=>by
  obtain ⟨j,_,e⟩:=List.mem_map.1 (show x∈(List.range p.Workers.toNat).map (uu p) from hx)
  exact ⟨j,e.symm⟩
 have z: ∀ {l:List Int},(∀v∈l,v=0)→l.sum=0:=fun {l} h=>by
  induction l with
  | nil=>rfl
  | cons a l ih=>rw [List.sum_cons,h a (List.mem_cons_self ..),ih (fun v hv=>h v (List.mem_cons_of_mem _ hv))];rfl
 have ho:WI (yv p)=0:=by
  unfold WI
  rw [z (fun v hv=>by
   obtain ⟨x,hx,rfl⟩:=List.mem_map.1 hv
   obtain ⟨i,rfl⟩:=hws x hx
   rfl),z (fun v hv=>by
   obtain ⟨x,hx,rfl⟩:=List.mem_map.1 hv
   have:=hms x hx
   unfold owX;rw [if_neg (by omega),if_neg (by omega)])]
  rfl
 have hold1:(yv p).Ms.flatMap (zW (yv p))=[]:=zaP (fun x hx=>by
  obtain ⟨r,_,e⟩:=List.mem_map.1 (show x∈p.Regs.map vJ from hx)
  rw [←e]
  unfold zW
  rw [ux ⟨by show (0:Int)≠3;decide,by show (0:Int)≠33;decide,by show (0:Int)≠36;decide,by show (0:Int)≠37;decide,by show (0:Int)≠38;decide⟩];rfl)
 have hold2:(yv p).Ws.flatMap (zJ (yv p))=[]:=zaP (fun x hx=>by
  obtain ⟨i,rfl⟩:=hws x hx
  have hb:uu p i=V5 p ((i:Int)+1) (uu p i):=rfl
  unfold zJ
  rw [hb,zia];rfl)
 have hb:vu p (yv p) (gh0 p)=Wf (Z8 p):=by
  unfold vu
  rw [hold1,hold2,List.append_nil,List.append_nil,zAa h]
 have hc:=zBu (zfY h)
 have hw:(yv p).Work=cnt (Z8 p):=rfl
 have hl:=zk6 h
 have hn:=h.n
 exact ⟨zFk h,by rw [hb,ho,hw,hc];omega,by rw [hw,hc];omega⟩
end
end Go.Pe.G
namespace Go.Pe.G
open Go.Pe
noncomputable section
namespace B19
theorem zyB {p:zb} (hp:zB p) {nb:Nat}: ∀(l:List zg) {k:Nat} {s:za} {gh:Gh},(∀x∈l,YG p x)→k+l.length<2147480000→EG p nb k s gh→∃k' gh',k'≤k+l.length∧EG p nb k' (uH s l).1 gh'
 | [],k,s,gh,_,_,I=>⟨k,gh,by simp,I⟩
 | x::l,k,s,gh,hx,hk,I=>by
  rw [List.length_cons] at hk
  rw [zo6]
  split
  ·exact ⟨k,gh,by simp,I⟩
  ·obtain ⟨gh',I',_⟩:=I.next hp (by omega) (zlk p x)
   rw [←zvP hp I.G.E (hx x (List.mem_cons_self ..))] at I'
   obtain ⟨k',gh2,h1,h2⟩:=zyB hp l (fun y hy=>hx y (List.mem_cons_of_mem _ hy)) (by omega) I'
   exact ⟨k',gh2,by rw [List.length_cons];omega,h2⟩
theorem zwt {p:zb} (hp:zB p) {nb:Nat} {l:List zg} (hl: ∀x∈l,YG p x) (hlen:l.length≤10): ∀(n:Nat) {k:Nat} {s:za} {gh:Gh},k+10*n<2147480000→EG p nb k s gh→∃k' gh',k'≤k+10*n∧EG p nb k' (ut l n s).1 gh'
 | 0,k,s,gh,_,I=>⟨k,gh,by omega,I⟩
 | n+1,k,s,gh,hk,I=>by
  rw [zp6]
  split
  ·exact ⟨k,gh,by omega,I⟩
  ·obtain ⟨k1,gh1,h1,I1⟩:=zyB hp l hl (by omega) I
   obtain ⟨k',gh',h2,I2⟩:=zwt hp hl hlen n (by omega) I1
   exact ⟨k',gh',by omega,I2⟩
theorem zCY {p:zb} (hp:zB p) {n m:Nat} (hn:(n:Int)=p.Workers) (hm:(m:Int)=p.Mutators):(∀x∈Xa n m,YG p x)∧(Xa n m).length≤10:=by
 have hw:=hp.wk
 have hmt:=hp.mt
 refine ⟨fun x hx=> ?_,by simp [Xa,zld];omega⟩
 have hp': ∀k n,x∈zan k n→x.Kind=k∧1≤x.N∧x.N≤(n:Int):=fun k n h=>by
  obtain ⟨i,hi,rfl⟩:=List.mem_map.1 (show x∈(List.range n).map _ from h)
  have:=List.mem_range.1 hi
  exact ⟨rfl,by show (1:Int)≤(i:Int)+1;omega,by show (i:Int)+1≤(n:Int);omega⟩
 rcases List.mem_append.1 (show x∈(⟨0,0⟩::zan 1 n)++zan 2 m from hx) with h | h
 ·rcases List.mem_cons.1 h with rfl | h
  ·exact .inl ⟨rfl,rfl⟩
  ·have:=hp' 1 n h;exact .inr (.inl ⟨this.1,this.2.1,by omega⟩)
 ·have:=hp' 2 m h;exact .inr (.inr ⟨this.1,this.2.1,by omega⟩)
theorem zDF {p:zb} {nb k:Nat} {s:za} {gh:Gh} (G:FG p nb k s gh) (h:yf (ld s.M (zY p))=0):gh.F=[]:=by
 have c:=G.X.L.cF
 rw [h] at c
 cases hf:gh.F with
 | nil=>rfl
 | cons y l =>
  rw [hf] at c
  have c:_∧_:=c
  omega
theorem zys {p:zb} (h:zB p) {nb k:Nat} {s:za} {gh:Gh} (G:FG p nb k s gh) {x:zh} (hx:s.Ws[0]? =some x) (h0:x.PC≠0):Za s 1=some (uk (zJ s x++XT s.M (zI p 1) p.Cap ⟨0,0,0,0,0#64,0#64,0,0⟩),()):=by
 have hwk:=h.wk
 have:=zrm h G hx
 have D:=G.X.D 1 (by omega) (by omega)
 have hc:=(G.W 0 x hx).c0 h0
 rw [show ((0:Nat):Int)+1=1 from rfl] at this hc
 rw [hc] at D
 rw [zny h (by omega) D (fun e=>absurd e.1 (by show ¬(0:Int)=2;decide))]
 exact this
theorem zB0 {A B D:Type} {f:A→Option (yA A B D)} {x y:A} {b:B} (h1:f x=some (.again y)) (h:f y=some (.brk b)):zO f x=some (.brk b):=by
 rw [XL]
 show xr f (18446744073709551614+1+1) x=_
 rw [xr,h1,Option.bind_some]
 dsimp only
 rw [xr,h];rfl
def zw8:List zm:=[⟨1,1,0,0⟩,⟨5,1,0,0⟩,⟨2,1,0,0⟩]
def pEx:zb:=⟨1,1,2,1,1,4,2,2,⟨1,[[2],[0],[0]]⟩,1#64,[[1,0]],[zw8],[]⟩
theorem zCN:zay [zw8]=some (pEx,()):=by
 rw [zmZ,zB0 (by rw [zaR,zj,if_pos (by decide),yp (by decide),Option.bind_some,wY (by decide)];simp only [Int.toNat_zero,List.getElem?_cons_zero,Option.bind_some];rw [yp (by decide),Option.bind_some,zS (by decide) (by decide)]) (by rw [zaR,zj,if_neg (by decide)])];rfl
theorem UV:zB pEx:=by
 constructor
 case objs=>intro o ho;simp [pEx] at ho ⊢;rcases ho with rfl | rfl | rfl<;>simp
 case roots=>exact ⟨1,by decide,by decide,by decide⟩
 case reg=>intro r hr;simp [pEx] at hr ⊢;subst hr;simp
 case prog =>
  intro k r ops hr ho
  cases k with
  | succ k=>cases ho
  | zero =>
   injection hr with hr
   injection ho with ho
   subst hr;subst ho
   refine ⟨by decide,fun o h=> ?_⟩
   simp [zw8] at h
   rcases h with rfl | rfl | rfl
   ·exact ⟨by decide,.inl ⟨.inl rfl,by decide,by decide⟩⟩
   ·exact ⟨by decide,.inr (.inr ⟨.inr rfl,rfl,rfl⟩)⟩
   ·exact ⟨by decide,.inl ⟨.inr rfl,by decide,by decide⟩⟩
 all_goals first | decide | rfl
def mEx:List zg:=[⟨2,1⟩]
def wEx:List zg:=[⟨1,1⟩,⟨1,1⟩,⟨1,1⟩,⟨1,1⟩,⟨1,1⟩,⟨1,1⟩,⟨1,1⟩]
def aEx:za:=(List.replicate 6 ()).foldl (fun r _=>(uH r mEx).1) (yv pEx)
def bEx:za:=(uH aEx mEx).1
def cEx:za:=(uH bEx mEx).1
def dEx:za:=(ut (Xa 1 1) 900 cEx).1
def vEx:za:=(uH (yv pEx) wEx).1
theorem zxC: ∀x∈mEx,YG pEx x:=fun x hx=>by rw [List.mem_singleton.1 hx];exact .inr (.inr ⟨rfl,by decide,by decide⟩)
theorem zFi: ∀x∈wEx,YG pEx x:=fun x hx=>by
 have:x=⟨1,1⟩:=by simpa [wEx] using hx
 rw [this];exact .inr (.inl ⟨rfl,by decide,by decide⟩)
def EGx (k:Nat) (s:za):Prop:=∃k' gh,k'≤k∧EG pEx (zQ pEx+1) k' s gh
theorem zqs {k:Nat} {s:za} (h:EGx k s) (hk:k<1000000) {l:List zg} (hl: ∀x∈l,YG pEx x) (hlen:l.length≤10):EGx (k+10) (uH s l).1:=by
 obtain ⟨k',gh,h1,I⟩:=h
 obtain ⟨k2,gh2,h2,I2⟩:=zyB UV l hl (by omega) I
 exact ⟨k2,gh2,by omega,I2⟩
theorem zFn:EGx 60 aEx:=by
 have h0:EGx 0 (yv pEx):=⟨0,gh0 pEx,by omega,zsG UV⟩
 have go: ∀(n:Nat) {k:Nat} {s:za},k+10*n<1000000→EGx k s→EGx (k+10*n) ((List.replicate n ()).foldl (fun r _=>(uH r mEx).1) s):=by
  intro n
  induction n with
  | zero=>intro k s _ h;exact h
  | succ n ih =>
   intro k s hk h
   rw [List.replicate_succ,List.foldl_cons]
   have:=ih (k:=k+10) (by omega) (zqs h (by omega) zxC (by decide))
   rwa [show k+10+10*n=k+10*(n+1) by omega] at this
 exact go 6 (by omega) h0
theorem zFo:EGx 70 bEx:=zqs zFn (by omega) zxC (by decide)
theorem zFh:EGx 80 cEx:=zqs zFo (by omega) zxC (by decide)
theorem zGn:EGx 10 vEx:=zqs ⟨0,gh0 pEx,by omega,zsG UV⟩ (by omega) zFi (by decide)
theorem zGf:EGx 10000 dEx:=by
 obtain ⟨k,gh,h1,I⟩:=zFh
 obtain ⟨a,b⟩:=zCY UV (n:=1) (m:=1) rfl rfl
 obtain ⟨k',gh',h2,I2⟩:=zwt UV a b 900 (by omega) I
 exact ⟨k',gh',by omega,I2⟩
theorem zEJ:zO wK (mEx,0,yv pEx,yv pEx,())=some (.brk (mEx,yv pEx,aEx,())):=by
 have E0:=zB4 UV
 have:=Zo (f:=wK) (fun j r=>(mEx,j,yv pEx,r,())) (fun r=>(mEx,yv pEx,r,())) (List.replicate 6 ()) (by decide) (fun r _=>(uH r mEx).1) (fun _ r=>EOk pEx (zQ pEx+1) r) (s:=yv pEx) E0
  (fun i r x hx hi E=>by
   have hi:i<6:=by simpa using hi
   refine ⟨zxT UV mEx E,?_⟩
   show wK (mEx,(i:Int),yv pEx,r,())=_
   rw [Uc,zj,if_pos (by omega),zdS UV E (by decide),Option.bind_some,yw (by omega)])
  (fun r E=>by
   show wK (mEx,6,yv pEx,r,())=_
   rw [Uc,zj,if_neg (by decide)])
 exact this.1
theorem zEh (a b:List Int) (ha:a.length<1000000):ZU a b=some (decide (a=b),()):=by
 rw [znT,yt]
 by_cases hl:a.length=b.length
 rotate_left
 ·rw [if_neg (by omega),decide_eq_false (fun e=>hl (by rw [e]))]
 rw [if_pos (by omega)]
 obtain ⟨o,e,ho⟩:=xZ (f:=UB) (fun c=>∃i:Nat,i≤a.length∧c=(a,b,(i:Int),())∧(a=b↔a.drop i=b.drop i)) (fun c=>a.length-c.2.2.1.toNat) (fun o=>(o= .brk ()∧a=b)∨(o= .ret (false,())∧a≠b)) (by
  rintro _ ⟨i,hi,rfl,h⟩
  rw [zkF,zj]
  by_cases c1:(i:Int)<(a.length:Int)
  ·have hx:=List.getElem?_eq_getElem (show i<a.length by omega)
   have hy:=List.getElem?_eq_getElem (show i<b.length by omega)
   have dx:=List.drop_eq_getElem_cons (show i<a.length by omega)
   have dy:=List.drop_eq_getElem_cons (show i<b.length by omega)
   generalize a[i]'(by omega)=x at hx dx
   generalize b[i]'(by omega)=y at hy dy
   rw [dx,dy,List.cons.injEq] at h
   rw [if_pos c1,xp hx,Option.bind_some,xp hy,Option.bind_some,yt]
   by_cases c2:x=y
   ·rw [if_pos c2,yw (by omega)]
    refine ⟨_,rfl,⟨i+1,by omega,rfl,h.trans ⟨fun e=>e.2,fun e=>⟨c2,e⟩⟩⟩,?_⟩
    show a.length-((i+1:Nat):Int).toNat<a.length-(i:Int).toNat
    omega
   ·rw [if_neg c2]
    exact ⟨_,rfl,.inr ⟨rfl,fun e=>c2 (h.1 e).1⟩⟩
  ·rw [if_neg c1]
   have:i=a.length:=by omega
   refine ⟨_,rfl,.inl ⟨rfl,h.2 ?_⟩⟩
   rw [List.drop_of_length_le (by omega),List.drop_of_length_le (by omega)]) (a,b,0,()) ⟨0,by omega,rfl,Iff.rfl⟩ (by show a.length-0<18446744073709551616;omega)
 rw [e]
 rcases ho with ⟨rfl,h⟩ | ⟨rfl,h⟩
 ·rw [decide_eq_true h];rfl
 ·rw [decide_eq_false h];rfl
theorem zyR {h:zt} (hn:h.Objs.length≤9) (hs: ∀l∈h.Objs,l.length<1000000) (R S:BitVec 64) (h1: ∀o,Reach h R o↔z5 S o=true):zqq h R=S:=zvy (fun o=>(zBC hn hs R o).trans (h1 o))
theorem zvg {o:Int}:z5 1#64 o=true↔o=1:=by
 rw [show (1#64:BitVec 64)=bit 1 by decide]
 exact ⟨fun e=>zx6 e,fun e=>by rw [e];decide⟩
theorem zGp {o:Int}:z5 3#64 o=true↔o=1∨o=2:=by
 rw [show (3#64:BitVec 64)=1#64|||bit 2 by decide,wb _ (by decide),zvg]
theorem zDO:ztD (yv pEx)=3#64:=by
 have eR:(yv pEx).P.Roots|||zua 0#64 (yv pEx).Ms=1#64:=by decide +kernel
 have eH:(yv pEx).H=⟨1,[[2],[0],[0]]⟩:=rfl
 unfold ztD
 rw [eR,eH]
 refine zyR (by decide) (by intro l hl;simp at hl;rcases hl with rfl | rfl | rfl<;>decide) _ _ (fun o=> ?_)
 rw [zGp]
 constructor
 ·intro r
  induction r with
  | root o h1 h2=>exact .inl (zvg.1 h1)
  | step o v _ h2 h3 ih =>
   rcases ih with rfl | rfl
   ·have h2:v∈([2]:List Int):=h2
    exact .inr (List.mem_singleton.1 h2)
   ·have h2:v∈([0]:List Int):=h2
    have:=List.mem_singleton.1 h2
    omega
 ·have r1:Reach ⟨1,[[2],[0],[0]]⟩ 1#64 1:= .root 1 (zvg.2 rfl) (by decide)
  rintro (rfl | rfl)
  ·exact r1
  ·exact .step 1 2 r1 (by show (2:Int)∈([2]:List Int);decide) (by decide)
theorem zFq:ztD cEx=1#64:=by
 have eR:cEx.P.Roots|||zua 0#64 cEx.Ms=1#64:=by decide +kernel
 have eH:cEx.H=⟨1,[[0],[0],[0]]⟩:=by kernel_rfl
 unfold ztD
 rw [eR,eH]
 refine zyR (by decide) (by intro l hl;simp at hl;subst hl;decide) _ _ (fun o=> ?_)
 rw [zvg]
 constructor
 ·intro r
  induction r with
  | root o h1 h2=>exact zvg.1 h1
  | step o v _ h2 h3 ih =>
   subst ih
   have h2:v∈([0]:List Int):=h2
   have:=List.mem_singleton.1 h2
   omega
 ·rintro rfl
  exact .root 1 (zvg.2 rfl) (by decide)
theorem zwJ:VO=some (true,()):=by
 have h:=UV
 have I0:=zsG UV
 have E0:=I0.G.E
 obtain ⟨ka,ga,_,Ia⟩:=zFn
 obtain ⟨kb,gb,_,Ib⟩:=zFo
 obtain ⟨kc,gc,_,Ic⟩:=zFh
 obtain ⟨kd,gd,_,Id⟩:=zGf
 obtain ⟨kv,gv,_,Iv⟩:=zGn
 have sa:=Ia.G.E
 have sb:=Ib.G.E
 have sc:=Ic.G.E
 have lw: ∀ {s:za},EOk pEx (zQ pEx+1) s→s.Ws.length≤100∧s.Ms.length≤100:=fun E=>by
  have a:((_:Nat):Int)=1:=E.wl
  have b:((_:Nat):Int)=1:=E.ml
  omega
 have rb:uX aEx mEx=some (bEx,(uH aEx mEx).2,()):=zdS h sa (by decide)
 have rc:uX bEx mEx=some (cEx,(uH bEx mEx).2,()):=zdS h sb (by decide)
 have rd:zat cEx 900=some (dEx,(ut (Xa 1 1) 900 cEx).2,()):=by
  have e1:cEx.Ws.length=1:=by have:=sc.wl;have:((cEx.Ws.length:Nat):Int)=1:=this;omega
  have e2:cEx.Ms.length=1:=by have:=sc.ml;have:((cEx.Ms.length:Nat):Int)=1:=this;omega
  have:=zwC h sc (most:=900) (by decide)
  rw [e1,e2] at this
  exact this
 have rv:uX (yv pEx) wEx=some (vEx,(uH (yv pEx) wEx).2,()):=zdS h E0 (by decide)
 have hv:ZL vEx=some ([],()):=by
  rw [(zoo h Iv.G).1,zDF Iv.G (by decide +kernel)];rfl
 have hl0:ZL (yv pEx)=some ([1],()):=by
  rw [(zoo h I0.G).1]
  have:uk ((gh0 pEx).F.flatMap (yu (yv pEx)))=[1]:=by decide +kernel
  rw [this]
 have hh0:UU (yv pEx)=some ([1],()):=by
  rw [zxw h I0.G]
  have:Xn (zd5 (yv pEx))=[1]:=by decide +kernel
  rw [this]
 have hw1:Za vEx 1=some ([1],()):=by
  obtain ⟨x,hx⟩: ∃x,vEx.Ws[0]? =some x:=⟨_,List.getElem?_eq_getElem (show 0<vEx.Ws.length by have:=Iv.G.E.wl;have:((vEx.Ws.length:Nat):Int)=1:=this;omega)⟩
  have hc:(vEx.Ws[0]?).map (fun x=>decide (x.PC≠0))=some true:=by decide +kernel
  have hd:(vEx.Ws[0]?).map (fun x=>uk (zJ vEx x++XT vEx.M (zI pEx 1) pEx.Cap ⟨0,0,0,0,0#64,0#64,0,0⟩))=some [1]:=by decide +kernel
  rw [hx,Option.map_some,Option.some.injEq] at hc hd
  rw [zys h Iv.G hx (by simpa using hc),hd]
 have hw2:Za (yv pEx) 2=some ([],()):=by
  rw [zjf,zj,if_neg (by decide),zj,if_pos (by decide +kernel)]
 have hm1:XJ (yv pEx) 1=some ([],()):=by
  obtain ⟨x,hx⟩: ∃x,(yv pEx).Ms[0]? =some x:=⟨_,rfl⟩
  have hd:((yv pEx).Ms[0]?).map (fun x=>uk (zW (yv pEx) x))=some []:=by decide +kernel
  rw [hx,Option.map_some,Option.some.injEq] at hd
  have:=zpp h I0.G hx
  rw [hd] at this
  exact this
 have p0:ztj (yv pEx)=0#64:=by decide +kernel
 have pa:ztj aEx=2#64:=by decide +kernel
 have pb:ztj bEx=2#64:=by decide +kernel
 have pc:ztj cEx=2#64:=by decide +kernel
 have g0:zua 0#64 (yv pEx).Ms=1#64:=by decide +kernel
 have dd:dEx.Done=true:=by decide +kernel
 have dq:zs0 dEx=true:=by decide +kernel
 have dm:dEx.T.Marks=3#64:=by decide +kernel
 have q0:zs0 (yv pEx)=false:=by decide +kernel
 have o0:WI (yv pEx)=0:=by decide +kernel
 have s1:ZU [1] [1]=some (true,()):=by rw [zEh _ _ (by decide)];rfl
 have nO: ∀ {s:za},EOk pEx (zQ pEx+1) s→s.H.Objs.length≤9:=fun E=>by
  have a:=E.H.n
  have b:pEx.Most=4:=rfl
  omega
 rw [zjN,show ([([zm.mk 1 1 0 0,zm.mk 5 1 0 0,zm.mk 2 1 0 0]:List zm)]:List (List zm))=[zw8] from rfl,zCN,Option.bind_some,zwp h,Option.bind_some]
 dsimp only
 rw [show ([zg.mk 2 1]:List zg)=mEx from rfl,zEJ,Option.bind_some]
 dsimp only
 rw [rb,Option.bind_some]
 dsimp only
 rw [rc,Option.bind_some]
 dsimp only
 rw [rd,Option.bind_some]
 rw [show ([zg.mk 1 1,zg.mk 1 1,zg.mk 1 1,zg.mk 1 1,zg.mk 1 1,zg.mk 1 1,zg.mk 1 1]:List zg)=wEx from rfl,rv,Option.bind_some,hh0,Option.bind_some]
 dsimp only
 rw [s1,Option.bind_some,cond_true,hl0,Option.bind_some]
 dsimp only
 rw [s1,Option.bind_some,cond_true,zdZ E0.small (lw E0).1 (lw E0).2,Option.bind_some,p0]
 dsimp only
 rw [decide_eq_true rfl,cond_true,zwi E0.small (nO E0),Option.bind_some,zDO]
 dsimp only
 rw [decide_eq_true rfl,cond_true,zvQ E0.small,Option.bind_some,g0]
 dsimp only
 rw [decide_eq_true rfl,cond_true,zdZ sa.small (lw sa).1 (lw sa).2,Option.bind_some,pa]
 dsimp only
 rw [decide_eq_true rfl,cond_true,zdZ sb.small (lw sb).1 (lw sb).2,Option.bind_some,pb]
 dsimp only
 rw [decide_eq_true rfl,cond_true,zwi sc.small (nO sc),Option.bind_some,zFq]
 dsimp only
 rw [decide_eq_true rfl,cond_true,zdZ sc.small (lw sc).1 (lw sc).2,Option.bind_some,pc]
 dsimp only
 rw [decide_eq_true rfl,cond_true,dd,cond_true,zs1 h Id.G,Option.bind_some,dq]
 dsimp only
 rw [cond_true,dm,decide_eq_true rfl,cond_true,zs1 h I0.G,Option.bind_some,q0]
 dsimp only
 rw [Bool.not_false,cond_true,hv,Option.bind_some]
 dsimp only
 rw [hw1,Option.bind_some]
 dsimp only
 rw [s1,Option.bind_some,hw2,Option.bind_some,hm1,Option.bind_some,zvZ (lw E0).1 (lw E0).2,Option.bind_some,o0]
 rfl
theorem holdWork_plain (l m:List (BitVec 8)):Zs l m=some (true,()):=by
 obtain ⟨p,ep,h⟩:=zEy l
 obtain ⟨ps,epk,hl,hok⟩:=zC2 h m 300 (by decide)
 have hwk:=h.wk
 have hmt:=h.mt
 have epk:WQ p m 300=some (ps,()):=epk
 rw [zkm,zwJ]
 simp only [Option.bind_some,Bool.not_true,cond_false,ep,zwp h,epk]
 obtain ⟨e,_⟩:=Zo (f:=ub) (fun j s=>(true,(ps.length:Int),j,p,s,ps,())) (fun _=>(true,())) ps (by omega) va (fun i s=>∃gh,EG p (zQ p+1) i s gh) (s:=yv p) ⟨gh0 p,zsG h⟩
  (fun i s x hx hi ⟨gh,I⟩=>by
   obtain ⟨gh',I',_⟩:=I.next h (by omega) (zlk p x)
   rw [←zvP h I.G.E (hok x (List.mem_of_getElem? hx))] at I'
   refine ⟨⟨gh',I'⟩,?_⟩
   have E':=I'.G.E
   have wl:=E'.wl
   have ml:=E'.ml
   have hr:=zBB (va s x)
   have hb:=(I'.G.bag9 h).1
   show ub (true,(ps.length:Int),(i:Int),p,s,ps,())=_
   have hw:(va s x).Work=w64 (cnt ((va s x).T.Marks&&& ~~~(va s x).T.Black)+WI (va s x)):=by
    have e:cnt ((va s x).T.Marks&&& ~~~(va s x).T.Black)=cnt (zd5 (va s x)):=rfl
    rw [e]
    rw [zCz h I'.G,zS (by omega) (by omega)];exact I'.wk
   have hw0:=I'.work_nn
   rw [Ue,zj,if_pos (by omega),wT (by omega) (by omega),Option.bind_some,Int.toNat_natCast,hx,Option.bind_some,zre h I.G.E,Option.bind_some]
   dsimp only
   rw [zvZ (by omega) (by omega),Option.bind_some]
   dsimp only
   rw [zj,if_neg (by omega),zS (by omega) (by omega),zj,if_neg (by omega),ztw,Option.bind_some,zvO,Option.bind_some]
   dsimp only
   rw [yt,if_pos hw,zj,if_neg (by omega),yw (by omega)])
  (fun s _=>by
   show ub (true,(ps.length:Int),(ps.length:Int),p,s,ps,())=_
   rw [Ue,zj,if_neg (by omega)])
 rw [e];rfl
end B19
end
end Go.Pe.G
