/- Own work of this seat: PGstep, PWstep, PBits, PWAll, PLists, PWNew, PHeld, PCnt, PWOnce, PItems, PMstep, PHp, PFirst, PNewI, PFull, PHold, PFWork, PEngI, PRem, PHeldAll, PHOwed, PReach, PHTold, PEngN, PLaw19. -/
import Derived.Test.YtnfcflmijelapaaGreatDoorHOPa
set_option linter.unusedVariables false
set_option linter.unusedSimpArgs false
set_option linter.unnecessarySimpa false
set_option linter.unusedSectionVars false
set_option linter.deprecated false
set_option maxRecDepth 20000
namespace Go.Pe.G
open Go.Pe
noncomputable section
theorem zFZ {p:zb} {s:za} {g:Gh} {b:Int}:yn p s {g with F:=b::g.F}=yu s b++yn p s g:=by
 unfold yn;simp [List.append_assoc]
theorem zGf {p:zb} {s:za} {g:Gh} {l:List Int}:yn p s {g with E:=l}=yn p s g:=rfl
theorem zDs {l:List Int} {t:Nat} {x:Int}:Dv t l t (l++[x]):=⟨Nat.le_refl _,fun _ h=>⟨by simp,by cases l with | nil=>exact absurd rfl h | cons a l=>rfl⟩⟩
theorem zAm {p:zb} (hp:zB p) {nb k:Nat} {R:List Int} {gh:Gh} {s:za} {g:zu} (hk:k<4294960000) (X:SX p nb s gh (x8 g++R) k) (M:MOk p nb g) (h5o:g.PC=5→g.C.Out≠1) (G:GX p s gh g) :
  zqH p nb k R gh s g (zx s g).1 (zx s g).2:=by
 have S':=(zqw hp X.S M h5o).1
 have hP:=X.S.P
 have hpc:=G.pc
 have hmd:=G.md
 have hob:=G.ob
 revert S'
 unfold zx
 by_cases h0:g.Out=0
 rotate_left
 ·rw [if_pos (.inl h0)]
  intro S'
  exact .quiet X S' rfl rfl rfl rfl rfl G.c0 G
 rw [if_neg (by omega)]
 have hc0:g.Mode=1→gh.c g.Who=0:=fun h=>G.c0 h h0
 by_cases p7:g.PC=7
 ·rw [if_pos p7]
  obtain ⟨c1,c2,c3,c4,c5⟩:=G.c7 p7 h0
  obtain ⟨m1,m2,m3,m4,m5⟩:=M.c7 p7
  have eo:x8 g=[g.Bin]:=zjJ h0 (.inr p7)
  have eh:yi g=[g.Obj]:=vC h0 (by omega) (by omega)
  rw [eo] at X
  intro S'
  have S':SOk p nb {s with M:=(zn s.M g.C).1}:=S'
  unfold zcB
  dsimp only
  rcases SX.pushF hp (o1:=[]) (o2:=R) (b:=g.Bin) X hk m1 m2 m3 c3 c1 c2 c4 m5 S' with ⟨a,b,c,d⟩ | ⟨a,b,d⟩
  ·rw [a]
   rw [if_neg (by decide)]
   have hout:=za2 s.M c1 c2 (.inl m1)
   have hsame:=zmf s.M g.C
   have hpc':0≤(zn s.M g.C).2.PC∧(zn s.M g.C).2.PC≤2:=by omega
   refine ⟨gh,by rw [show x8 {g with C:=(zn s.M g.C).2}=[g.Bin] from zjJ h0 (.inr p7)];exact b,?_,by rw [eo];exact d _ _ (by simp),fun h _=>hc0 h,fun _ h=> .inl h,[],?_,.inl ⟨rfl,rfl⟩⟩
   ·exact ⟨.inl h0,hpc,hmd,hob,fun h _=>hc0 h,fun e=>by have e:g.PC=5:=e;omega,fun _ _=>⟨a,hpc',(hsame.2.2.2 m1).trans c3,c,c5⟩,fun e=>by have e:g.PC=3:=e;omega⟩
   ·rw [uR rfl,show yi {g with C:=(zn s.M g.C).2}=[g.Obj] from vC h0 (by show (3:Int)≤g.PC;omega) (by show g.PC≤7;omega),eh]
    exact List.Perm.refl _
  ·rw [a,if_pos rfl]
   have e1:x8 {g with C:=(zn s.M g.C).2,Out:=1}=[]:=vc (.inl (by show (1:Int)≠0;decide))
   have e2:yi {g with C:=(zn s.M g.C).2,Out:=1}=[]:=Zv (.inl (by show (1:Int)≠0;decide))
   refine ⟨{gh with F:=g.Bin::gh.F},by rw [e1];exact b,?_,by rw [eo];exact d _ _ (by unfold yu;rw [c5];exact List.cons_ne_nil _ _),fun h _=>hc0 h,fun y hy=>(List.mem_cons.1 hy).elim (fun e=> .inr (by rw [e];unfold yu;rw [show ({s with M:=(zn s.M g.C).1}:za).Bins=s.Bins from rfl,c5];exact List.cons_ne_nil _ _)) .inl,[],?_,.inl ⟨rfl,rfl⟩⟩
   ·exact GX.plain (.inr rfl) hpc hmd hob (fun _ e=>by cases e) (.inl (by show (1:Int)≠0;decide))
   ·rw [e2,eh,zFZ,uR rfl,List.append_nil]
    have:yu {s with M:=(zn s.M g.C).1} g.Bin=[g.Obj]:=by unfold yu;rw [show ({s with M:=(zn s.M g.C).1}:za).Bins=s.Bins from rfl,c5];rfl
    rw [this]
    exact List.perm_append_comm
 rw [if_neg p7]
 by_cases p6:g.PC=6
 ·rw [if_pos p6]
  have eo:x8 g=[g.Bin]:=zjJ h0 (.inl p6)
  have eh:yi g=[g.Obj]:=vC h0 (by omega) (by omega)
  have hb:=M.b6 p6
  have hbl:=X.S.bins
  intro S'
  unfold zxb
  unfold zxb at S'
  have e1:x8 {g with PC:=7,C:=⟨1,0,zZ s.P,zD s.P,0#64,g.Bin,0,0⟩}=[g.Bin]:=zjJ h0 (.inr rfl)
  have hget: ∀b,1≤b→b∉x8 g→(s.Bins.set g.Bin.toNat [g.Obj])[b.toNat]? =s.Bins[b.toNat]? :=fun b b1 b2=>by
   rw [List.getElem?_set_ne]
   intro e
   rw [eo] at b2
   exact b2 (by rw [show b=g.Bin by omega];simp)
  refine ⟨gh,by rw [e1,←eo];exact X.quiet S' rfl,?_,FX.quiet rfl hget,fun h _=>hc0 h,fun _ h=> .inl h,[],?_,.inl ⟨rfl,rfl⟩⟩
  ·refine ⟨.inl h0,⟨by show (0:Int)≤7;decide,by show (7:Int)≤7;decide⟩,hmd,hob,fun h _=>hc0 h,fun e=>absurd e (by show ¬(7:Int)=5;decide),fun _ _=>⟨rfl,⟨by show (0:Int)≤0;decide,by show (0:Int)≤2;decide⟩,rfl,⟨fun e=>absurd e (by show ¬(1:Int)≤0;decide),fun e=>absurd e (by show ¬(0:Int)=2;decide),fun e=>absurd e (by show ¬(0:Int)=2;decide)⟩,?_⟩,fun e=>absurd e (by show ¬(7:Int)=3;decide)⟩
   show (s.Bins.set g.Bin.toNat [g.Obj])[g.Bin.toNat]? =_
   rw [List.getElem?_set_self (by omega)]
  ·rw [show yi {g with PC:=7,C:=⟨1,0,zZ s.P,zD s.P,0#64,g.Bin,0,0⟩}=[g.Obj] from vC h0 (by show (3:Int)≤7;decide) (by show (7:Int)≤7;decide),eh]
   have:yn p {s with Bins:=s.Bins.set g.Bin.toNat [g.Obj]} gh=yn p s gh:=by
    unfold yn
    congr 1
    refine xB (fun b hb=> ?_)
    have hm:=X.L.cF.mem b hb
    have hno:=(X.L.notF (x:=g.Bin) (by rw [eo];simp)).1
    unfold yu
    rw [show ({s with Bins:=s.Bins.set g.Bin.toNat [g.Obj]}:za).Bins=s.Bins.set g.Bin.toNat [g.Obj] from rfl,hget b hm.1 (by rw [eo];intro e;rw [List.mem_singleton.1 e] at hb;exact hno hb)]
   rw [this];exact List.Perm.refl _
 rw [if_neg p6]
 have eo:x8 g=[]:=vc (.inr ⟨p6,p7⟩)
 by_cases p5:g.PC=5
 ·rw [if_pos p5]
  obtain ⟨c1,c2,c3⟩:=G.c5 p5 h0
  obtain ⟨m1,m2,m3,m4,m5⟩:=M.c5 p5
  have eh:yi g=[g.Obj]:=vC h0 (by omega) (by omega)
  intro S'
  have S':SOk p nb {s with M:=(zn s.M g.C).1}:=S'
  unfold zk7
  dsimp only
  rcases SX.popE hp X hk m1 m2 m3 c1 c2 c3 m4 S' with ⟨a,b,c,d⟩ | ⟨x,l,a,b,c,d,e⟩
  ·rw [if_neg b]
   have hout:=za2 s.M c1 c2 (.inr m1)
   by_cases o2:(zn s.M g.C).2.Out=2
   ·rw [if_pos o2]
    refine .quiet X S' a rfl rfl ?_ ?_ G.c0 (GX.ask h0 hmd hob hc0 _)
    ·rw [eo];exact vc (.inr ⟨by show (5:Int)≠6;decide,by show (5:Int)≠7;decide⟩)
    ·rw [eh];exact vC h0 (by show (3:Int)≤5;decide) (by show (5:Int)≤7;decide)
   ·rw [if_neg o2]
    have hpc':(zn s.M g.C).2.Out=0∧0≤(zn s.M g.C).2.PC∧(zn s.M g.C).2.PC≤2:=by omega
    refine .quiet X S' a rfl rfl ?_ ?_ G.c0 ⟨.inl h0,hpc,hmd,hob,G.c0,fun _ _=>⟨hpc'.1,hpc'.2,by rw [show ({s with M:=(zn s.M g.C).1}:za).M=s.M from a];exact c⟩,fun e=>by have e:g.PC=7:=e;omega,fun e=>by have e:g.PC=3:=e;omega⟩
    ·rw [eo];exact vc (.inr ⟨p6,p7⟩)
    ·rw [eh];exact vC h0 (by show (3:Int)≤g.PC;omega) (by show g.PC≤7;omega)
  ·rw [if_pos b]
   have e1:x8 {g with PC:=6,C:=(zn s.M g.C).2,Bin:=(zn s.M g.C).2.X}=[x]:=by rw [←c];exact zjJ (g:={g with PC:=6,C:=(zn s.M g.C).2,Bin:=(zn s.M g.C).2.X}) h0 (.inl rfl)
   refine ⟨{gh with E:=l},by rw [e1];rw [eo] at d;exact d,?_,e _ _,fun h _=>hc0 h,fun _ h=> .inl h,[],?_,.inl ⟨rfl,rfl⟩⟩
   ·exact GX.plain (.inl h0) ⟨by show (0:Int)≤6;decide,by show (6:Int)≤7;decide⟩ hmd hob (fun h _=>hc0 h) (.inr ⟨by show (6:Int)≠3;decide,by show (6:Int)≠5;decide,by show (6:Int)≠7;decide⟩)
   ·rw [zGf,uR rfl,eh,show yi {g with PC:=6,C:=(zn s.M g.C).2,Bin:=(zn s.M g.C).2.X}=[g.Obj] from vC h0 (by show (3:Int)≤6;decide) (by show (6:Int)≤7;decide)]
    exact List.Perm.refl _
 rw [if_neg p5]
 by_cases p4:g.PC=4
 ·rw [if_pos p4]
  intro S'
  refine .quiet X S' rfl rfl rfl ?_ ?_ G.c0 (GX.ask h0 hmd hob hc0 _)
  ·rw [eo];exact vc (.inr ⟨by show (5:Int)≠6;decide,by show (5:Int)≠7;decide⟩)
  ·rw [vC h0 (by omega) (by omega)];exact vC h0 (by show (3:Int)≤5;decide) (by show (5:Int)≤7;decide)
 rw [if_neg p4]
 by_cases p3:g.PC=3
 ·rw [if_pos p3]
  obtain ⟨c1,c2,c3⟩:=G.d3 p3 h0
  have hw:=M.who c1
  have eh:yi g=[g.Obj]:=vC h0 (by omega) (by omega)
  have hdk:=X.dk g.Who hw.1 hw.2
  have hlen:=X.L.len
  have hE:=wo hp
  have hc00:=c3.c0
  have c3':=c3
  rw [hc00] at c3'
  have D0:=X.D g.Who hw.1 hw.2
  rw [hc00] at D0
  obtain ⟨a,b,r⟩:=zwP hp hw (by omega) D0 c3' (by omega) (by rw [c2];omega)
  intro S'
  have S':SOk p nb {s with M:=(yD s.M g.D).1}:=S'
  unfold zll
  dsimp only
  rcases r with ⟨r1,r2,r3⟩ | ⟨r1,r2⟩ | ⟨r1,r2⟩
  ·rw [r1,if_neg (by decide),if_neg (by decide)]
   have e1:x8 {g with D:=(yD s.M g.D).2}=[]:=vc (.inr ⟨p6,p7⟩)
   refine ⟨Wv gh g.Who (gh.t g.Who) (gh.D g.Who) 0,?_,?_,FX.own (O:=zxf g) (s:=s) (s':={s with M:=(yD s.M g.D).1}) (g:=gh) hp hw a rfl ⟨c1,rfl⟩ (Dv.refl _ _),fun _ _=>wu.2.2,fun _ h=> .inl h,[],?_,.inl ⟨rfl,rfl⟩⟩
   ·rw [e1];rw [eo] at X;exact X.dq hp S' (zia _ _) hw a r2 (by omega)
   ·refine ⟨.inl h0,hpc,hmd,hob,fun _ _=>wu.2.2,fun e=>by have e:g.PC=5:=e;omega,fun e=>by have e:g.PC=7:=e;omega,fun _ _=>⟨c1,b.trans c2,?_⟩⟩
    show DK p (yD s.M g.D).1 g.Who ((Wv gh g.Who (gh.t g.Who) (gh.D g.Who) 0).t g.Who) _ _ _
    rw [wu.1,wu.2.1,wu.2.2];exact r3
   ·obtain ⟨u,v,f1,f2⟩:=zpG (p:=p) (s:=s) (s':={s with M:=(yD s.M g.D).1}) (g:=gh) rfl hw (t:=gh.t g.Who) (c:=0) (l:=gh.D g.Who)
    rw [f1,f2,eh,show yi {g with D:=(yD s.M g.D).2}=[g.Obj] from vC h0 (by show (3:Int)≤g.PC;omega) (by show g.PC≤7;omega)]
    exact List.Perm.refl _
  ·rw [r1,if_neg (by decide),if_pos rfl]
   have e1:x8 (zho s.P {g with D:=(yD s.M g.D).2})=[]:=vc (.inr ⟨by show (5:Int)≠6;decide,by show (5:Int)≠7;decide⟩)
   refine ⟨Wv gh g.Who (gh.t g.Who) (gh.D g.Who) 0,?_,?_,FX.own (O:=zxf g) (s:=s) (s':={s with M:=(yD s.M g.D).1}) (g:=gh) hp hw a rfl ⟨c1,rfl⟩ (Dv.refl _ _),fun _ _=>wu.2.2,fun _ h=> .inl h,[],?_,.inl ⟨rfl,rfl⟩⟩
   ·rw [e1];rw [eo] at X;exact X.dq hp S' (zia _ _) hw a r2 (by omega)
   ·exact GX.ask (g:={g with D:=(yD s.M g.D).2}) h0 hmd hob (fun _=>wu.2.2) _
   ·obtain ⟨u,v,f1,f2⟩:=zpG (p:=p) (s:=s) (s':={s with M:=(yD s.M g.D).1}) (g:=gh) rfl hw (t:=gh.t g.Who) (c:=0) (l:=gh.D g.Who)
    rw [f1,f2,eh,show yi (zho s.P {g with D:=(yD s.M g.D).2})=[g.Obj] from vC h0 (by show (3:Int)≤5;decide) (by show (5:Int)≤7;decide)]
    exact List.Perm.refl _
  ·rw [r1,if_pos rfl]
   have e1:x8 {g with D:=(yD s.M g.D).2,Out:=1}=[]:=vc (.inl (by show (1:Int)≠0;decide))
   refine ⟨Wv gh g.Who (gh.t g.Who) (gh.D g.Who++[g.D.X]) 0,?_,?_,FX.own (O:=zxf g) (s:=s) (s':={s with M:=(yD s.M g.D).1}) (g:=gh) hp hw a rfl ⟨c1,rfl⟩ zDs,fun _ _=>wu.2.2,fun _ h=> .inl h,[],?_,.inl ⟨rfl,rfl⟩⟩
   ·rw [e1];rw [eo] at X;exact X.dq hp S' (zia _ _) hw a r2 (by rw [List.length_append,List.length_singleton];omega)
   ·exact GX.plain (.inr rfl) hpc hmd hob (fun _ e=>by cases e) (.inl (by show (1:Int)≠0;decide))
   ·obtain ⟨u,v,f1,f2⟩:=zpG (p:=p) (s:=s) (s':={s with M:=(yD s.M g.D).1}) (g:=gh) rfl hw (t:=gh.t g.Who) (c:=0) (l:=gh.D g.Who++[g.D.X])
    rw [f1,f2,eh,show yi {g with D:=(yD s.M g.D).2,Out:=1}=[] from Zv (.inl (by show (1:Int)≠0;decide)),c2,List.append_nil,List.nil_append]
    simp only [List.append_assoc]
    refine List.Perm.append_left _ (List.Perm.append_left _ ?_)
    exact List.perm_append_comm
 rw [if_neg p3]
 by_cases p2:g.PC=2
 ·rw [if_pos p2]
  intro S'
  refine .quiet X S' rfl rfl rfl ?_ ?_ G.c0 (GX.plain (.inr rfl) hpc hmd hob (fun _ e=>by cases e) (.inl (by show (1:Int)≠0;decide)))
  ·rw [eo];exact vc (.inl (by show (1:Int)≠0;decide))
  ·rw [Zv (g:=g) (.inr (.inl (by omega)))];exact Zv (.inl (by show (1:Int)≠0;decide))
 rw [if_neg p2]
 by_cases p1:g.PC=1
 ·rw [if_pos p1]
  have eh:yi g=[]:=Zv (.inr (.inl (by omega)))
  intro S'
  unfold zk1
  unfold zk1 at S'
  dsimp only at S' ⊢
  by_cases hs:(vu s.T g.Obj).2=false
  ·have eT:(vu s.T g.Obj).1=s.T:=by
    unfold vu at hs ⊢
    split at hs
    ·rename_i h1;rw [if_pos h1]
    ·rename_i h1
     split at hs
     ·cases hs
     ·rename_i h2;rw [if_neg h1,if_neg h2]
   rw [if_pos hs]
   refine .quiet X S' rfl rfl eT ?_ ?_ G.c0 (GX.plain (.inl h0) ⟨by show (0:Int)≤2;decide,by show (2:Int)≤7;decide⟩ hmd hob G.c0 (.inr ⟨by show (2:Int)≠3;decide,by show (2:Int)≠5;decide,by show (2:Int)≠7;decide⟩))
   ·rw [eo];exact vc (.inr ⟨by show (2:Int)≠6;decide,by show (2:Int)≠7;decide⟩)
   ·rw [eh];exact Zv (.inr (.inl (by show (2:Int)<3;decide)))
  ·have eT: ¬(s.T.Marks|||bit g.Obj=s.T.Marks)∧(vu s.T g.Obj).1={s.T with Marks:=s.T.Marks|||bit g.Obj}:=by
    unfold vu at hs ⊢
    split at hs
    ·exact absurd rfl hs
    ·rename_i h1
     split at hs
     ·rename_i h2;exact ⟨h1,by rw [if_neg h1,if_pos h2]⟩
     ·exact absurd rfl hs
   rw [if_neg hs]
   have fin: ∀g':zu,x8 g'=[]→yi g'=[g.Obj]→GX p {s with T:=(vu s.T g.Obj).1} gh g'→zqH p nb k R gh s g {s with T:=(vu s.T g.Obj).1} g':=fun g' a b c =>
    ⟨gh,by rw [a,←eo];exact X.quiet S' rfl,c,FX.quiet rfl (fun _ _ _=>rfl),fun h _=>hc0 h,fun _ h=> .inl h,[g.Obj],by rw [uR rfl,b,eh,List.append_nil];exact List.perm_append_comm,.inr ⟨rfl,eT.1,eT.2⟩⟩
   by_cases q1:g.Mode=1
   ·rw [if_pos q1]
    have hw:=M.who q1
    refine fin _ (vc (.inr ⟨by show (3:Int)≠6;decide,by show (3:Int)≠7;decide⟩)) (vC h0 (by show (3:Int)≤3;decide) (by show (3:Int)≤7;decide))
     ⟨.inl h0,⟨by show (0:Int)≤3;decide,by show (3:Int)≤7;decide⟩,hmd,hob,G.c0,fun e=>absurd e (by show ¬(3:Int)=5;decide),fun e=>absurd e (by show ¬(3:Int)=7;decide),fun _ _=>⟨q1,rfl,⟨rfl,by rw [hP],by rw [hP],rfl,hc0 q1,⟨by show (0:Int)≤0;decide,by show (0:Int)≤3;decide⟩,fun e=>absurd e (by show ¬(1:Int)≤0;decide),fun e=>absurd e (by show ¬(2:Int)≤0;decide),fun e=>absurd e (by show ¬(3:Int)≤0;decide)⟩⟩⟩
   rw [if_neg q1]
   by_cases q2:g.Mode=2
   ·rw [if_pos q2]
    exact fin _ (vc (.inr ⟨by show (4:Int)≠6;decide,by show (4:Int)≠7;decide⟩)) (vC h0 (by show (3:Int)≤4;decide) (by show (4:Int)≤7;decide))
     (GX.plain (.inl h0) ⟨by show (0:Int)≤4;decide,by show (4:Int)≤7;decide⟩ hmd hob G.c0 (.inr ⟨by show (4:Int)≠3;decide,by show (4:Int)≠5;decide,by show (4:Int)≠7;decide⟩))
   ·rw [if_neg q2]
    exact fin _ (vc (.inr ⟨by show (5:Int)≠6;decide,by show (5:Int)≠7;decide⟩)) (vC h0 (by show (3:Int)≤5;decide) (by show (5:Int)≤7;decide)) (GX.ask h0 hmd hob hc0 _)
 ·rw [if_neg p1]
  intro S'
  refine .quiet X S' rfl rfl rfl ?_ ?_ G.c0 (GX.plain (.inl h0) ⟨by show (0:Int)≤1;decide,by show (1:Int)≤7;decide⟩ hmd hob G.c0 (.inr ⟨by show (1:Int)≠3;decide,by show (1:Int)≠5;decide,by show (1:Int)≠7;decide⟩))
  ·rw [eo];exact vc (.inr ⟨by show (1:Int)≠6;decide,by show (1:Int)≠7;decide⟩)
  ·rw [Zv (g:=g) (.inr (.inl (by omega)))];exact Zv (.inr (.inl (by show (1:Int)<3;decide)))
end
end Go.Pe.G
namespace Go.Pe.G
open Go.Pe
noncomputable section
def wg (x:zh):List Int:=if x.PC=3∨x.PC=4 then [x.Bin] else if x.PC=6 then x8 x.G else []
def UH (s:za) (x:zh):List Int:=if x.PC=0 then ZT s.M x.D else if x.PC=3 then yu s x.Bin else if x.PC=5∨x.PC=8 then [x.Obj] else if x.PC=6 then x.Obj::yi x.G else []
def zJ (s:za) (x:zh):List Int:=x.Batch++UH s x
structure WX (p:zb) (s:za) (gh:Gh) (w:Int) (x:zh):Prop where
 c0:x.PC≠0→gh.c w=0
 bt:x.PC≤3→x.Batch=[]
 p0:x.PC=0→PK p s.M w (gh.t w) (gh.D w) (gh.c w) x.D
 p1:x.PC=1→TK p s.M x.Victim (gh.t x.Victim) (gh.D x.Victim) x.D
 p2:x.PC=2→x.C.Out=0∧(0≤x.C.PC∧x.C.PC≤2)∧CK p s.M x.C
 p4:x.PC=4→x.C.Out=0∧(0≤x.C.PC∧x.C.PC≤2)∧x.C.X=x.Bin∧CK p s.M x.C
 p6:x.PC=6→GX p s gh x.G∧x.G.Mode=1∧x.G.Who=w∧x.G.Out=0
theorem WX.plain {p:zb} {s:za} {gh:Gh} {w:Int} {x:zh} (h:x.PC=5∨x.PC=7∨x.PC=8∨x.PC=9) (c:gh.c w=0):WX p s gh w x :=
 ⟨fun _=>c,fun e=>by omega,fun e=>by omega,fun e=>by omega,fun e=>by omega,fun e=>by omega,fun e=>by omega⟩
theorem CK.start {p:zb} {m:List (BitVec 64)} {k h x:Int}:CK p m ⟨k,0,h,zD p,0#64,x,0,0⟩ :=
 ⟨fun e=>absurd e (by show ¬(1:Int)≤0;decide),fun e=>absurd e (by show ¬(0:Int)=2;decide),fun e=>absurd e (by show ¬(0:Int)=2;decide)⟩
theorem WX.begin {p:zb} {s:za} {gh:Gh} {w:Int} {x:zh} (c:gh.c w=0) (hb:x.Batch=[]):WX p s gh w (VV p w x):=by
 refine ⟨fun e=>absurd rfl e,fun _=>hb,fun _=>⟨rfl,rfl,rfl,rfl,⟨by show (0:Int)≤0;decide,by show (0:Int)≤6;decide⟩,fun _=>c,?_,?_,?_,?_,?_,?_,?_,?_⟩,fun e=>(by cases e),fun e=>(by cases e),fun e=>(by cases e),fun e=>(by cases e)⟩
 all_goals (intro e;first | (exact absurd e (by show ¬((0:Int)=2∨(4:Int)≤0);decide)) | (exact absurd e (by show ¬(0:Int)=3;decide)) | (exact absurd e (by show ¬(0:Int)=4;decide)) | (exact absurd e (by show ¬((0:Int)=3∨(0:Int)=4);decide)) | (exact absurd e (by show ¬(5:Int)≤0;decide)) | skip)
 rcases e with e | e | e | e
 ·exact absurd e (by show ¬(0:Int)=1;decide)
 ·exact absurd e (by show ¬(0:Int)=2;decide)
 ·exact absurd e (by show ¬(4:Int)≤0;decide)
 ·exact absurd e.1 (by show ¬(0:Int)=3;decide)
theorem ziD {p:zb} {s:za} {w:Int} {x:zh}:UH s (VV p w x)=[]:=by
 unfold UH
 rw [if_pos (show (VV p w x).PC=0 from rfl)]
 exact vw (.inl (by show (0:Int)≠3;decide)) (by show (0:Int)≠6;decide)
theorem WX.look {p:zb} {s:za} {gh:Gh} {w:Int} {x:zh} (c:gh.c w=0) (hb:x.Batch=[]):WX p s gh w (Ym p w x)∧UH s (Ym p w x)=[]∧wg (Ym p w x)=[]:=by
 unfold Ym
 split
 ·refine ⟨⟨fun _=>c,fun _=>hb,fun e=>(by cases e),fun e=>(by cases e),fun _=>⟨rfl,⟨by show (0:Int)≤0;decide,by show (0:Int)≤2;decide⟩,CK.start⟩,fun e=>(by cases e),fun e=>(by cases e)⟩,?_,?_⟩
  ·unfold UH;rw [if_neg (by show ¬(2:Int)=0;decide),if_neg (by show ¬(2:Int)=3;decide),if_neg (by show ¬((2:Int)=5∨(2:Int)=8);decide),if_neg (by show ¬(2:Int)=6;decide)]
  ·unfold wg;rw [if_neg (by show ¬((2:Int)=3∨(2:Int)=4);decide),if_neg (by show ¬(2:Int)=6;decide)]
 ·refine ⟨⟨fun _=>c,fun _=>hb,fun e=>(by cases e),fun _=>⟨rfl,rfl,rfl,rfl,⟨by show (0:Int)≤0;decide,by show (0:Int)≤3;decide⟩,fun e=>absurd e (by show ¬(1:Int)≤0;decide),fun e=>absurd e (by show ¬(2:Int)≤0;decide),fun e=>absurd e (by show ¬(0:Int)=3;decide)⟩,fun e=>(by cases e),fun e=>(by cases e),fun e=>(by cases e)⟩,?_,?_⟩
  ·unfold UH;rw [if_neg (by show ¬(1:Int)=0;decide),if_neg (by show ¬(1:Int)=3;decide),if_neg (by show ¬((1:Int)=5∨(1:Int)=8);decide),if_neg (by show ¬(1:Int)=6;decide)]
  ·unfold wg;rw [if_neg (by show ¬((1:Int)=3∨(1:Int)=4);decide),if_neg (by show ¬(1:Int)=6;decide)]
theorem WX.other {p:zb} (hp:zB p) {nb k:Nat} {s s':za} {gh gh':Gh} {X R:List Int} {O:Int→Prop} {w:Int} {x:zh} (hw:1≤w∧w≤p.Workers) (Y:SX p nb s gh (X++R) k) (Fx:FX p nb X O s s' gh gh') (K:WX p s gh w x) (W:WOk p nb w x)
  (hR: ∀b∈wg x,b∈R) (apart: ¬O w):WX p s' gh' w x∧zJ s' x=zJ s x:=by
 have hsub: ∀b∈X,b∈X++R:=fun b hb=>List.mem_append_left _ hb
 have hnd:=(List.nodup_append.1 Y.L.nodup).2.1
 have hnot: ∀b,b∈wg x→b∉X:=fun b hb hg=>(List.nodup_append.1 hnd).2.2 b hg b (hR b hb) rfl
 have hc:gh'.c w=gh.c w:=by
  rcases Fx.dq w hw.1 hw.2 with h | h
  ·cases h with
   | same e1 e2 e3 e4=>exact e3
   | stolen y e1 e2 e3 e4=>exact e3
  ·exact absurd h.1 apart
 have hcell: ∀a,zI p w<a→a<zI p w+p.Cap+2→ld s'.M a=ld s.M a:=by
  rcases Fx.dq w hw.1 hw.2 with h | h
  ·cases h with
   | same e1 e2 e3 e4=>exact fun a h1 h2=>e4 a (by omega) h2
   | stolen y e1 e2 e3 e4=>exact e4
  ·exact absurd h.1 apart
 refine ⟨⟨fun e=>hc.trans (K.c0 e),K.bt,fun e=>Fx.pk hp hw.1 hw.2 apart (K.p0 e),fun e=>Fx.tk W.vic.1 W.vic.2 (K.p1 e),fun e=> ?_,fun e=> ?_,fun e=> ?_⟩,?_⟩
 ·obtain ⟨a,b,c⟩:=K.p2 e
  have C:=W.c2 e
  exact ⟨a,b,c.mv Y.L Fx.mv hsub (.inl C.h) (fun h _=>C.v h) (fun e2=>by have:=C.k;omega)⟩
 ·obtain ⟨a,b,c,d⟩:=K.p4 e
  have C:=W.c4 e
  have hno:=hnot x.Bin (by unfold wg;rw [if_pos (.inr e)];simp)
  exact ⟨a,b,c,d.mv Y.L Fx.mv hsub (.inr C.h) (fun _ e2=>by have:=C.k;omega) (fun _=>⟨C.x.1,C.x.2,by rw [c];exact hno⟩)⟩
 ·obtain ⟨a,b,c,d⟩:=K.p6 e
  have M:=(W.g6 e).1
  refine ⟨a.other hp Y Fx M (fun y hy=>hR y ?_) (fun _=>by rw [c];exact apart),b,c,d⟩
  unfold wg;rw [if_neg (by omega),if_pos e];exact hy
 ·unfold zJ UH
  congr 1
  by_cases e0:x.PC=0
  ·rw [if_pos e0,if_pos e0]
   have P:=K.p0 e0
   unfold ZT
   have hpl:=(zr4 hp hw.1 hw.2 P.base P.size (x.D.B-1#64)).2
   rw [hcell _ (by rw [P.base] at hpl;omega) (by rw [P.base] at hpl;omega)]
  ·rw [if_neg e0,if_neg e0]
   by_cases e3:x.PC=3
   ·rw [if_pos e3,if_pos e3]
    have hb:=W.b3 e3
    have hno:=hnot x.Bin (by unfold wg;rw [if_pos (.inl e3)];simp)
    unfold yu
    rw [Fx.bn x.Bin hb.1 hno]
   ·rw [if_neg e3,if_neg e3]
theorem zxz (s:za) (b:Int):WU s b=yu s b:=by unfold WU yu;rw [List.getD_eq_getElem?_getD]
theorem FX.mono {p:zb} {nb:Nat} {X:List Int} {O O':Int→Prop} {s s':za} {g g':Gh} (h:FX p nb X O s s' g g') (i: ∀v,O v→O' v):FX p nb X O' s s' g g' :=
 ⟨h.mv,h.bn,fun v a b=>(h.dq v a b).imp id (fun e=>⟨i v e.1,e.2⟩),h.fb⟩
theorem vX {x:zh} (h3:x.PC≠3) (h4:x.PC≠4) (h6:x.PC≠6):wg x=[]:=by unfold wg;rw [if_neg (by omega),if_neg h6]
theorem zi2 {x:zh} (h:x.PC=3∨x.PC=4):wg x=[x.Bin]:=by unfold wg;rw [if_pos h]
theorem zx6 {x:zh} (h:x.PC=6):wg x=x8 x.G:=by unfold wg;rw [if_neg (by omega),if_pos h]
theorem zBs {s:za} {x:zh} (h:x.PC=0):UH s x=ZT s.M x.D:=by unfold UH;rw [if_pos h]
theorem zCu {s:za} {x:zh} (h:x.PC=3):UH s x=yu s x.Bin:=by unfold UH;rw [if_neg (by omega),if_pos h]
theorem UN {s:za} {x:zh} (h:x.PC=5∨x.PC=8):UH s x=[x.Obj]:=by unfold UH;rw [if_neg (by omega),if_neg (by omega),if_pos h]
theorem zyb {s:za} {x:zh} (h:x.PC=6):UH s x=x.Obj::yi x.G:=by unfold UH;rw [if_neg (by omega),if_neg (by omega),if_neg (by omega),if_pos h]
theorem Yg {s:za} {x:zh} (h:x.PC=1∨x.PC=2∨x.PC=4∨x.PC=7∨x.PC=9):UH s x=[]:=by unfold UH;rw [if_neg (by omega),if_neg (by omega),if_neg (by omega),if_neg (by omega)]
def zji (p:zb) (nb k:Nat) (R:List Int) (gh:Gh) (s:za) (w:Int) (x:zh) (s':za) (x':zh):Prop :=
 ∃gh',SX p nb s' gh' (wg x'++R) (k+1)∧WX p s' gh' w x'∧FX p nb (wg x) (fun v=>v=w) s s' gh gh' ∧
  ∃N B,List.Perm (yn p s' gh'++zJ s' x'++B) (N++(yn p s gh++zJ s x)) ∧
   ((N=[]∧B=[]∧s'.T=s.T)∨(N=[x.G.Obj]∧B=[]∧x.PC=6∧¬(s.T.Marks|||bit x.G.Obj=s.T.Marks)∧s'.T={s.T with Marks:=s.T.Marks|||bit x.G.Obj})∨(N=[]∧B=[x.Obj]∧x.PC=8∧s'.T=wJ s.T x.Obj))
theorem zji.quiet {p:zb} {nb k:Nat} {R:List Int} {gh:Gh} {s s':za} {w:Int} {x x':zh} (X:SX p nb s gh (wg x++R) k) (S':SOk p nb s') (hm:s'.M=s.M) (hb:s'.Bins=s.Bins) (hT:s'.T=s.T)
  (ho:wg x'=wg x) (hh:List.Perm (zJ s' x') (zJ s x)) (W':WX p s' gh w x'):zji p nb k R gh s w x s' x' :=
 ⟨gh,by rw [ho];exact X.quiet S' hm,W',FX.quiet hm (fun _ _ _=>by rw [hb]),[],[],by rw [uR hb,List.append_nil];exact List.Perm.append_left _ hh,.inl ⟨rfl,rfl,hT⟩⟩
theorem zD5 {p:zb} (hp:zB p) {nb k:Nat} {R:List Int} {gh:Gh} {s:za} {w:Int} {x:zh} (hk:k<4294960000) (hw:1≤w∧w≤p.Workers) (X:SX p nb s gh (wg x++R) k) (W:WOk p nb w x) (K:WX p s gh w x)
  (hH: ∀o i,0≤xx s.H o i∧xx s.H o i≤64):zji p nb k R gh s w x (zp s w x).1 (zp s w x).2:=by
 have S':=(zAc hp hw X.S W).1
 have hP:=X.S.P
 have eL: ∀y,Ym s.P w y=Ym p w y:=fun y=>by rw [hP]
 have eB: ∀y,VV s.P w y=VV p w y:=fun y=>by rw [hP]
 have eC:zbk s.P (zD s.P) x.Bin=zbk p (zD p) x.Bin:=by rw [hP]
 have hpc:=W.pc
 have hlen:=X.L.len
 have hE:=wo hp
 revert S'
 unfold zp
 by_cases p01:x.PC=0∨x.PC=1
 ·rw [if_pos p01]
  intro S'
  have S':SOk p nb {s with M:=(zS s.M x.D).1}:=S'
  have hl:=(zlH s.M x.D).1
  have eo:wg x=[]:=vX (by omega) (by omega) (by omega)
  have hbt:=K.bt (by omega)
  rw [eo] at X
  dsimp only
  by_cases p0:x.PC=0
  ·have K0:=K.p0 p0
   have D0:=X.D w hw.1 hw.2
   have hdk:=X.dk w hw.1 hw.2
   obtain ⟨t',l',c',D',hm,V,hle,r⟩:=zya hp hw (by omega) D0 K0
   have hc:=hp.cap
   have hm': ∀a,(a<zI p w∨zI p w+p.Cap+2≤a)→ld (zS s.M x.D).1 a=ld s.M a:=fun a ha=>hm a (by omega) (by omega)
   have X':=X.dq hp S' hl hw hm' D' (by omega)
   have Fx:FX p nb (wg x) (fun v=>v=w) s {s with M:=(zS s.M x.D).1} gh (Wv gh w t' l' c'):=FX.own (O:=fun v=>v=w) (s:=s) (s':={s with M:=(zS s.M x.D).1}) (g:=gh) hp hw hm' rfl rfl V
   obtain ⟨u,v,f1,f2⟩:=zpG (p:=p) (s:=s) (s':={s with M:=(zS s.M x.D).1}) (g:=gh) rfl hw (t:=t') (c:=c') (l:=l')
   have fin: ∀x':zh,wg x'=[]→WX p {s with M:=(zS s.M x.D).1} (Wv gh w t' l' c') w x'→List.Perm (l'++zJ {s with M:=(zS s.M x.D).1} x') (gh.D w++zJ s x)→zji p nb k R gh s w x {s with M:=(zS s.M x.D).1} x':=by
    intro x' a b c
    refine ⟨_,by rw [a];exact X',b,Fx,[],[],?_,.inl ⟨rfl,rfl,rfl⟩⟩
    rw [f1,f2,List.append_nil,List.nil_append]
    simp only [List.append_assoc]
    refine List.Perm.append_left _ ?_
    refine (List.perm_append_comm_assoc l' v _).trans (List.Perm.trans ?_ (List.perm_append_comm_assoc v (gh.D w) _))
    exact List.Perm.append_left _ c
   have hh:zJ s x=ZT s.M x.D:=by unfold zJ;rw [hbt,zBs p0,List.nil_append]
   rw [hh] at fin
   rcases r with ⟨r1,r2,r3⟩ | ⟨r1,r2,r3⟩ | ⟨r1,r2,r3,r4,r5⟩
   ·rw [r1,if_neg (by decide),if_neg (by decide)]
    refine fin _ (vX (by show x.PC≠3;omega) (by show x.PC≠4;omega) (by show x.PC≠6;omega)) ⟨fun e=>absurd p0 e,fun _=>hbt,fun _=> ?_,fun e=>by have e:x.PC=1:=e;omega,fun e=>by have e:x.PC=2:=e;omega,fun e=>by have e:x.PC=4:=e;omega,fun e=>by have e:x.PC=6:=e;omega⟩ ?_
    ·rw [wu.1,wu.2.1,wu.2.2];exact r2
    ·unfold zJ
     rw [zBs (x:={x with D:=(zS s.M x.D).2}) p0]
     show List.Perm (l'++(x.Batch++ZT (zS s.M x.D).1 (zS s.M x.D).2)) _
     rw [hbt,List.nil_append];exact r3
   ·rw [r1,if_pos rfl]
    refine fin _ (vX (by show (5:Int)≠3;decide) (by show (5:Int)≠4;decide) (by show (5:Int)≠6;decide)) (WX.plain (.inl rfl) (by rw [wu.2.2];exact r2)) ?_
    unfold zJ
    rw [UN (.inl rfl)]
    show List.Perm (l'++(x.Batch++[(zS s.M x.D).2.X])) _
    rw [hbt,List.nil_append];exact r3
   ·rw [r1,if_neg (by decide),if_pos (.inl rfl),eL]
    obtain ⟨a,b,c⟩:=WX.look (p:=p) (s:={s with M:=(zS s.M x.D).1}) (gh:=Wv gh w t' l' c') (w:=w) (x:={x with D:=(zS s.M x.D).2}) (by rw [wu.2.2];exact r2) hbt
    refine fin _ c a ?_
    unfold zJ
    rw [b,r3,r4,r5,show (Ym p w {x with D:=(zS s.M x.D).2}).Batch=x.Batch by unfold Ym;split<;>rfl,hbt]
    exact List.Perm.refl _
  ·have p1:x.PC=1:=by omega
   have K1:=K.p1 p1
   have hv:=W.vic
   have hc0:=K.c0 p0
   have D0:=X.D x.Victim hv.1 hv.2
   have hdk:=X.dk x.Victim hv.1 hv.2
   have hh:zJ s x=[]:=by unfold zJ;rw [hbt,Yg (.inl p1)];rfl
   rcases zA0 hp hv (by omega) D0 K1 with ⟨hm,r⟩ | ⟨y,l',e1,e2,e3,e4,e5⟩
   ·have S2:=S'
    have q: ∀x':zh,wg x'=[]→zJ {s with M:=(zS s.M x.D).1} x'=[]→WX p {s with M:=(zS s.M x.D).1} gh w x'→zji p nb k R gh s w x {s with M:=(zS s.M x.D).1} x' :=
     fun x' a b c=> .quiet (by rw [eo];exact X) S' hm rfl rfl (by rw [a,eo]) (by rw [b,hh]) c
    rcases r with ⟨r1,r2⟩ | r
    ·rw [r1,if_neg (by decide),if_neg (by decide)]
     refine q _ (vX (by show x.PC≠3;omega) (by show x.PC≠4;omega) (by show x.PC≠6;omega)) ?_ ⟨fun _=>hc0,fun _=>hbt,fun e=>absurd e p0,fun _=> ?_,fun e=>by have e:x.PC=2:=e;omega,fun e=>by have e:x.PC=4:=e;omega,fun e=>by have e:x.PC=6:=e;omega⟩
     ·unfold zJ
      rw [Yg (x:={x with D:=(zS s.M x.D).2}) (.inl p1)]
      show x.Batch++[]=[]
      rw [hbt];rfl
     ·show TK p (zS s.M x.D).1 _ _ _ _
      rw [hm];exact r2
    ·rw [if_neg (by omega),if_pos r,eL]
     obtain ⟨a,b,c⟩:=WX.look (p:=p) (s:={s with M:=(zS s.M x.D).1}) (gh:=gh) (w:=w) (x:={x with D:=(zS s.M x.D).2}) hc0 hbt
     refine q _ c ?_ a
     unfold zJ
     rw [b,show (Ym p w {x with D:=(zS s.M x.D).2}).Batch=x.Batch by unfold Ym;split<;>rfl,hbt];rfl
   ·have hc:=hp.cap
    have hm': ∀a,(a<zI p x.Victim∨zI p x.Victim+p.Cap+2≤a)→ld (zS s.M x.D).1 a=ld s.M a:=fun a ha=>e5 a (by omega)
    have X':=X.dq hp S' hl hv hm' e4 (by rw [e1] at hdk;simp at hdk;omega)
    obtain ⟨h1,h2⟩:=zuJ hp hv hm'
    obtain ⟨u,v,f1,f2⟩:=zpG (p:=p) (s:=s) (s':={s with M:=(zS s.M x.D).1}) (g:=gh) rfl hv (t:=gh.t x.Victim+1) (c:=gh.c x.Victim) (l:=l')
    rw [e2,if_pos rfl]
    refine ⟨Wv gh x.Victim (gh.t x.Victim+1) l' (gh.c x.Victim),by rw [vX (by show (5:Int)≠3;decide) (by show (5:Int)≠4;decide) (by show (5:Int)≠6;decide)];exact X',WX.plain (.inl rfl) ?_,⟨Mv.low hp h1,fun _ _ _=>rfl,fun v' a b=> .inl ?_,fun _ h=> .inl h⟩,[],[],?_,.inl ⟨rfl,rfl,rfl⟩⟩
    ·by_cases e:w=x.Victim
     ·rw [e,wu.2.2,←e];exact hc0
     ·rw [(YO e).2.2];exact hc0
    ·by_cases e:v'=x.Victim
     ·subst e
      exact .stolen y wu.2.1 (by rw [wu.1];exact e1) wu.2.2 (fun a h1 _=>e5 a (by omega))
     ·exact .same (YO e).2.1 (YO e).1 (YO e).2.2 (h2 v' a b e)
    ·rw [f1,f2,hh,List.append_nil,List.append_nil,List.nil_append,e1]
     unfold zJ
     rw [UN (.inl rfl)]
     show List.Perm (u++l'++v++(x.Batch++[(zS s.M x.D).2.X])) _
     rw [hbt,List.nil_append,e3]
     simp only [List.append_assoc]
     refine List.Perm.append_left _ ?_
     show List.Perm (l'++(v++[y])) (y::(l'++v))
     rw [←List.append_assoc]
     exact List.perm_append_comm
 rw [if_neg p01]
 have hc0:=K.c0 (by omega)
 by_cases p2:x.PC=2
 ·rw [if_pos p2]
  intro S'
  have S':SOk p nb {s with M:=(zn s.M x.C).1}:=S'
  have C:=W.c2 p2
  obtain ⟨c1,c2,c3⟩:=K.p2 p2
  have hbt:=K.bt (by omega)
  have eo:wg x=[]:=vX (by omega) (by omega) (by omega)
  have hh:zJ s x=[]:=by unfold zJ;rw [hbt,Yg (.inr (.inl p2))];rfl
  dsimp only
  rcases SX.popF hp X hk C.k C.h C.n c1 c2 c3 C.v S' with ⟨a,b,c,d⟩ | ⟨y,l,a,b,c,d,e⟩
  ·rw [if_neg b]
   have hout:=za2 s.M c1 c2 (.inr C.k)
   by_cases o2:(zn s.M x.C).2.Out=2
   ·rw [if_pos o2,eB]
    refine .quiet X S' a rfl rfl ?_ ?_ (WX.begin hc0 hbt)
    ·rw [eo];exact vX (by show (0:Int)≠3;decide) (by show (0:Int)≠4;decide) (by show (0:Int)≠6;decide)
    ·unfold zJ
     rw [ziD,show (VV p w {x with C:=(zn s.M x.C).2}).Batch=x.Batch from rfl]
     rw [hbt,Yg (.inr (.inl p2))]
   ·rw [if_neg o2]
    have hpc':(zn s.M x.C).2.Out=0∧0≤(zn s.M x.C).2.PC∧(zn s.M x.C).2.PC≤2:=by omega
    refine .quiet X S' a rfl rfl ?_ ?_ ⟨fun _=>hc0,fun _=>hbt,fun e=>by have e:x.PC=0:=e;omega,fun e=>by have e:x.PC=1:=e;omega,fun _=>⟨hpc'.1,hpc'.2,?_⟩,fun e=>by have e:x.PC=4:=e;omega,fun e=>by have e:x.PC=6:=e;omega⟩
    ·rw [eo];exact vX (by show x.PC≠3;omega) (by show x.PC≠4;omega) (by show x.PC≠6;omega)
    ·unfold zJ
     rw [Yg (x:={x with C:=(zn s.M x.C).2}) (.inr (.inl p2)),Yg (.inr (.inl p2))]
    ·rw [show ({s with M:=(zn s.M x.C).1}:za).M=s.M from a];exact c
  ·rw [if_pos b]
   have e1:wg {x with C:=(zn s.M x.C).2,Bin:=(zn s.M x.C).2.X,PC:=3}=[y]:=by rw [←c];exact zi2 (x:={x with C:=(zn s.M x.C).2,Bin:=(zn s.M x.C).2.X,PC:=3}) (.inl rfl)
   refine ⟨{gh with F:=l},by rw [e1];rw [eo] at d;exact d,⟨fun _=>hc0,fun _=>hbt,fun e=>(by cases e),fun e=>(by cases e),fun e=>(by cases e),fun e=>(by cases e),fun e=>(by cases e)⟩,e _ _,[],[],?_,.inl ⟨rfl,rfl,rfl⟩⟩
   rw [hh,List.append_nil,List.append_nil,List.nil_append]
   unfold zJ
   rw [zCu (x:={x with C:=(zn s.M x.C).2,Bin:=(zn s.M x.C).2.X,PC:=3}) rfl]
   show List.Perm (yn p s {gh with F:=l}++(x.Batch++yu s (zn s.M x.C).2.X)) _
   rw [hbt,List.nil_append,c]
   have:yn p s gh=yu s y++yn p s {gh with F:=l}:=by unfold yn;rw [a];simp [List.append_assoc]
   rw [this]
   exact List.perm_append_comm
 rw [if_neg p2]
 by_cases p3:x.PC=3
 ·rw [if_pos p3]
  intro S'
  have hb:=W.b3 p3
  have hbt:=K.bt (by omega)
  have eo:wg x=[x.Bin]:=zi2 (.inl p3)
  rw [eC]
  have e1:wg {x with Batch:=WU s x.Bin,PC:=4,C:=zbk p (zD p) x.Bin}=[x.Bin]:=zi2 (x:={x with Batch:=WU s x.Bin,PC:=4,C:=zbk p (zD p) x.Bin}) (.inr rfl)
  have hget: ∀b,1≤b→b∉wg x→(s.Bins.set x.Bin.toNat [])[b.toNat]? =s.Bins[b.toNat]? :=fun b b1 b2=>by
   rw [List.getElem?_set_ne]
   intro e
   rw [eo] at b2
   exact b2 (by rw [show b=x.Bin by omega];simp)
  refine ⟨gh,by rw [e1,←eo];exact X.quiet S' rfl,⟨fun _=>hc0,fun e=>absurd e (by show ¬(4:Int)≤3;decide),fun e=>(by cases e),fun e=>(by cases e),fun e=>(by cases e),fun _=>⟨rfl,⟨by show (0:Int)≤0;decide,by show (0:Int)≤2;decide⟩,rfl,CK.start⟩,fun e=>(by cases e)⟩,FX.quiet rfl hget,[],[],?_,.inl ⟨rfl,rfl,rfl⟩⟩
  have hbag:yn p {s with Bins:=s.Bins.set x.Bin.toNat []} gh=yn p s gh:=by
   unfold yn
   congr 1
   refine xB (fun b hb=> ?_)
   have hm:=X.L.cF.mem b hb
   have hno:=(X.L.notF (x:=x.Bin) (by rw [eo];simp)).1
   unfold yu
   rw [show ({s with Bins:=s.Bins.set x.Bin.toNat []}:za).Bins=s.Bins.set x.Bin.toNat [] from rfl,hget b hm.1 (by rw [eo];intro e;rw [List.mem_singleton.1 e] at hb;exact hno hb)]
  rw [hbag,List.append_nil,List.nil_append]
  unfold zJ
  rw [zCu p3,Yg (x:={x with Batch:=WU s x.Bin,PC:=4,C:=zbk p (zD p) x.Bin}) (.inr (.inr (.inl rfl)))]
  show List.Perm (yn p s gh++(WU s x.Bin++[])) _
  rw [hbt,List.append_nil,List.nil_append,zxz]
 rw [if_neg p3]
 by_cases p4:x.PC=4
 ·rw [if_pos p4]
  intro S'
  have S':SOk p nb {s with M:=(zn s.M x.C).1}:=S'
  have C:=W.c4 p4
  obtain ⟨c1,c2,c3,c4⟩:=K.p4 p4
  have eo:wg x=[x.Bin]:=zi2 (.inr p4)
  have hh:zJ s x=x.Batch:=by unfold zJ;rw [Yg (.inr (.inr (.inl p4))),List.append_nil]
  rw [eo] at X
  dsimp only
  rcases SX.pushE hp (o1:=[]) (o2:=R) (b:=x.Bin) X hk C.k C.h C.n c3 c1 c2 c4 C.v S' with ⟨a,b,c,d⟩ | ⟨a,b,d⟩
  ·rw [a,if_neg (by decide)]
   have hout:=za2 s.M c1 c2 (.inl C.k)
   have hsame:=zmf s.M x.C
   have hpc':0≤(zn s.M x.C).2.PC∧(zn s.M x.C).2.PC≤2:=by omega
   have e1:wg {x with C:=(zn s.M x.C).2}=[x.Bin]:=zi2 (x:={x with C:=(zn s.M x.C).2}) (.inr p4)
   refine ⟨gh,by rw [e1];exact b,⟨fun _=>hc0,fun e=>by have e:x.PC≤3:=e;omega,fun e=>by have e:x.PC=0:=e;omega,fun e=>by have e:x.PC=1:=e;omega,fun e=>by have e:x.PC=2:=e;omega,fun _=>⟨a,hpc',(hsame.2.2.2 C.k).trans c3,c⟩,fun e=>by have e:x.PC=6:=e;omega⟩,by rw [eo];exact d _ _ (by simp),[],[],?_,.inl ⟨rfl,rfl,rfl⟩⟩
   rw [uR rfl,hh,List.append_nil]
   unfold zJ
   rw [Yg (x:={x with C:=(zn s.M x.C).2}) (.inr (.inr (.inl p4))),List.append_nil]
   exact List.Perm.refl _
  ·rw [a,if_pos rfl]
   refine ⟨{gh with E:=x.Bin::gh.E},by rw [vX (by show (7:Int)≠3;decide) (by show (7:Int)≠4;decide) (by show (7:Int)≠6;decide)];exact b,WX.plain (.inr (.inl rfl)) hc0,by rw [eo];exact d _ _,[],[],?_,.inl ⟨rfl,rfl,rfl⟩⟩
   rw [hh,List.append_nil]
   unfold zJ
   rw [Yg (.inr (.inr (.inr (.inl rfl)))),List.append_nil]
   exact List.Perm.refl _
 rw [if_neg p4]
 by_cases p5:x.PC=5
 ·rw [if_pos p5]
  intro S'
  have eo:wg x=[]:=vX (by omega) (by omega) (by omega)
  have hv:=hH x.Obj x.Slot
  dsimp only
  split
  ·rcases zj7 s (wc (x.Slot+1)) with e | e<;>rw [e]
   ·refine .quiet X S' rfl rfl rfl (by rw [eo];exact vX (by show (5:Int)≠3;decide) (by show (5:Int)≠4;decide) (by show (5:Int)≠6;decide)) ?_ (WX.plain (.inl rfl) hc0)
    unfold zJ
    rw [UN (.inl p5),UN (.inl rfl)]
   ·refine .quiet X S' rfl rfl rfl (by rw [eo];exact vX (by show (8:Int)≠3;decide) (by show (8:Int)≠4;decide) (by show (8:Int)≠6;decide)) ?_ (WX.plain (.inr (.inr (.inl rfl))) hc0)
    unfold zJ
    rw [UN (.inl p5),UN (.inr rfl)]
  ·rename_i hne
   have e0:(ZI 1 (xx s.H x.Obj x.Slot) w).PC=0:=rfl
   refine .quiet X S' rfl rfl rfl ?_ ?_ ⟨fun _=>hc0,fun e=>absurd e (by show ¬(6:Int)≤3;decide),fun e=>(by cases e),fun e=>(by cases e),fun e=>(by cases e),fun e=>(by cases e),fun _=>⟨GX.plain (.inl rfl) ⟨by show (0:Int)≤0;decide,by show (0:Int)≤7;decide⟩ ⟨by show (1:Int)≤1;decide,by show (1:Int)≤3;decide⟩ ⟨by show 1≤xx s.H x.Obj x.Slot;omega,hv.2⟩ (fun _ _=>hc0) (.inr ⟨by show (0:Int)≠3;decide,by show (0:Int)≠5;decide,by show (0:Int)≠7;decide⟩),rfl,rfl,rfl⟩⟩
   ·rw [eo,zx6 (x:={x with Slot:=wc (x.Slot+1),PC:=6,G:=ZI 1 (xx s.H x.Obj x.Slot) w}) rfl]
    exact vc (.inr ⟨by show (0:Int)≠6;decide,by show (0:Int)≠7;decide⟩)
   ·unfold zJ
    rw [UN (.inl p5),zyb (x:={x with Slot:=wc (x.Slot+1),PC:=6,G:=ZI 1 (xx s.H x.Obj x.Slot) w}) rfl]
    rw [Zv (g:=ZI 1 (xx s.H x.Obj x.Slot) w) (.inr (.inl (by show (0:Int)<3;decide)))]
 rw [if_neg p5]
 by_cases p6:x.PC=6
 ·rw [if_pos p6]
  intro S'
  obtain ⟨G,gm,gw,g0⟩:=K.p6 p6
  obtain ⟨M,h5o,_,hn4⟩:=W.g6 p6
  have eo:wg x=x8 x.G:=zx6 p6
  have hh:zJ s x=x.Batch++x.Obj::yi x.G:=by unfold zJ;rw [zyb p6]
  rw [eo] at X
  obtain ⟨gh',X',G',Fx,hc',hFb,N,hN,hT⟩:=zAm hp hk X M h5o G
  have so:=Um s x.G
  have Fx':FX p nb (wg x) (fun v=>v=w) s (zx s x.G).1 gh gh':=by
   rw [eo]
   exact Fx.mono (fun v e=>e.2.trans gw)
  have hcw:gh'.c w=0:=by have:=hc' gm g0;rwa [gw] at this
  dsimp only
  have hT':(N=[]∧([]:List Int)=[]∧(zx s x.G).1.T=s.T)∨(N=[x.G.Obj]∧([]:List Int)=[]∧x.PC=6∧¬(s.T.Marks|||bit x.G.Obj=s.T.Marks)∧(zx s x.G).1.T={s.T with Marks:=s.T.Marks|||bit x.G.Obj})∨(N=[]∧([]:List Int)=[x.Obj]∧x.PC=8∧(zx s x.G).1.T=wJ s.T x.Obj):=by
   rcases hT with ⟨a,b⟩ | ⟨a,b,c⟩
   ·exact .inl ⟨a,rfl,b⟩
   ·exact .inr (.inl ⟨a,rfl,p6,b,c⟩)
  have perm: ∀H':List Int,H'=x.Batch++x.Obj::yi (zx s x.G).2→List.Perm (yn p (zx s x.G).1 gh'++H'++[]) (N++(yn p s gh++zJ s x)):=by
   intro H' e
   rw [e,hh,List.append_nil]
   have a1:List.Perm (yn p (zx s x.G).1 gh'++(x.Batch++x.Obj::yi (zx s x.G).2)) ((x.Batch++[x.Obj])++(yn p (zx s x.G).1 gh'++yi (zx s x.G).2)):=by
    rw [show x.Batch++x.Obj::yi (zx s x.G).2=(x.Batch++[x.Obj])++yi (zx s x.G).2 by simp]
    exact List.perm_append_comm_assoc _ _ _
   have a2:List.Perm (N++(yn p s gh++(x.Batch++x.Obj::yi x.G))) ((x.Batch++[x.Obj])++(N++(yn p s gh++yi x.G))):=by
    rw [show x.Batch++x.Obj::yi x.G=(x.Batch++[x.Obj])++yi x.G by simp]
    exact (List.Perm.append_left N (List.perm_append_comm_assoc _ _ _)).trans (List.perm_append_comm_assoc _ _ _)
   exact a1.trans ((List.Perm.append_left _ hN).trans a2.symm)
  split
  ·rename_i o1
   have n1:x8 (zx s x.G).2=[]:=vc (.inl (by omega))
   have n2:yi (zx s x.G).2=[]:=Zv (.inl (by omega))
   rw [n1] at X'
   rcases zj7 s x.Slot with e | e<;>rw [e]
   ·refine ⟨gh',by rw [vX (by show (5:Int)≠3;decide) (by show (5:Int)≠4;decide) (by show (5:Int)≠6;decide)];exact X',WX.plain (.inl rfl) hcw,Fx',N,[],perm _ ?_,hT'⟩
    unfold zJ;rw [UN (.inl rfl),n2]
   ·refine ⟨gh',by rw [vX (by show (8:Int)≠3;decide) (by show (8:Int)≠4;decide) (by show (8:Int)≠6;decide)];exact X',WX.plain (.inr (.inr (.inl rfl))) hcw,Fx',N,[],perm _ ?_,hT'⟩
    unfold zJ;rw [UN (.inr rfl),n2]
  ·rename_i o1
   have o0:(zx s x.G).2.Out=0:=by have:=G'.o;omega
   refine ⟨gh',by rw [zx6 (x:={x with G:=(zx s x.G).2}) p6];exact X',⟨fun _=>hcw,fun e=>by have e:x.PC≤3:=e;omega,fun e=>by have e:x.PC=0:=e;omega,fun e=>by have e:x.PC=1:=e;omega,fun e=>by have e:x.PC=2:=e;omega,fun e=>by have e:x.PC=4:=e;omega,fun _=>⟨G',so.2.2.trans gm,so.2.1.trans gw,o0⟩⟩,Fx',N,[],perm _ ?_,hT'⟩
   unfold zJ;rw [zyb (x:={x with G:=(zx s x.G).2}) p6]
 rw [if_neg p6]
 have eo:wg x=[]:=vX (by omega) (by omega) (by omega)
 by_cases p7:x.PC=7
 ·rw [if_pos p7]
  intro S'
  dsimp only
  split
  ·rename_i hb
   rw [eB]
   refine .quiet X S' rfl rfl rfl (by rw [eo];exact vX (by show (0:Int)≠3;decide) (by show (0:Int)≠4;decide) (by show (0:Int)≠6;decide)) ?_ (WX.begin hc0 hb)
   unfold zJ
   rw [ziD,Yg (.inr (.inr (.inr (.inl p7))))]
   exact List.Perm.refl _
  ·rename_i o l hb
   refine .quiet X S' rfl rfl rfl (by rw [eo];exact vX (by show (5:Int)≠3;decide) (by show (5:Int)≠4;decide) (by show (5:Int)≠6;decide)) ?_ (WX.plain (.inl rfl) hc0)
   unfold zJ
   rw [UN (.inl rfl),Yg (.inr (.inr (.inr (.inl p7)))),hb,List.append_nil]
   exact List.perm_append_comm
 rw [if_neg p7]
 by_cases p8:x.PC=8
 ·rw [if_pos p8]
  intro S'
  refine ⟨gh,by rw [vX (by show (9:Int)≠3;decide) (by show (9:Int)≠4;decide) (by show (9:Int)≠6;decide)];rw [eo] at X;exact X.quiet S' rfl,WX.plain (.inr (.inr (.inr rfl))) hc0,FX.quiet rfl (fun _ _ _=>rfl),[],[x.Obj],?_,.inr (.inr ⟨rfl,rfl,p8,rfl⟩)⟩
  rw [uR rfl,List.nil_append]
  unfold zJ
  rw [UN (.inr p8),Yg (.inr (.inr (.inr (.inr rfl)))),List.append_nil,List.append_assoc]
  exact List.Perm.refl _
 rw [if_neg p8]
 have p9:x.PC=9:=by omega
 rw [if_pos p9]
 intro S'
 refine .quiet X S' rfl rfl rfl (by rw [eo];exact vX (by show (7:Int)≠3;decide) (by show (7:Int)≠4;decide) (by show (7:Int)≠6;decide)) ?_ (WX.plain (.inr (.inl rfl)) hc0)
 unfold zJ
 rw [Yg (.inr (.inr (.inr (.inr p9)))),Yg (.inr (.inr (.inr (.inl rfl))))]
theorem zyc (s:za) (w:Int) (x:zh) (h:(zp s w x).2.PC=6):(x.PC=6∧(zp s w x).2.G.Obj=x.G.Obj)∨(x.PC=5∧(zp s w x).2.G.Obj=xx s.H x.Obj x.Slot):=by
 revert h
 have hon: ∀i,onW s i≠6:=fun i e=>by rcases zj7 s i with h | h<;>omega
 have hlk: ∀y:zh,(Ym s.P w y).PC≠6:=fun y e=>by unfold Ym at e;split at e<;>cases e
 unfold zp
 split
 ·rename_i h0
  dsimp only
  split
  ·exact fun e=>by cases e
  split
  ·exact fun e=>absurd e (hlk _)
  ·exact fun e=>by have e:x.PC=6:=e;omega
 split
 ·dsimp only
  split
  ·exact fun e=>by cases e
  split
  ·exact fun e=>by cases e
  ·exact fun e=>by have e:x.PC=6:=e;omega
 split
 ·exact fun e=>by cases e
 split
 ·dsimp only
  split
  ·exact fun e=>by cases e
  ·exact fun e=>by have e:x.PC=6:=e;omega
 split
 ·rename_i h5
  dsimp only
  split
  ·exact fun e=>absurd e (hon _)
  ·exact fun _=> .inr ⟨h5,rfl⟩
 split
 ·rename_i h6
  dsimp only
  split
  ·exact fun e=>absurd e (hon _)
  ·exact fun _=> .inl ⟨h6,(Um s x.G).1⟩
 split
 ·dsimp only
  split
  ·exact fun e=>by cases e
  ·exact fun e=>by cases e
 split
 ·exact fun e=>by cases e
 split
 ·exact fun e=>by cases e
 ·exact fun e=> .inl ⟨e,rfl⟩
end
end Go.Pe.G
namespace Go.Pe.G
open Go.Pe
noncomputable section
theorem zvD {o:Int} (h:1≤o∧o≤64) (j:Nat):(bit o).getLsbD j=decide ((o-1).toNat=j):=by
 unfold bit
 rw [if_pos h,←BitVec.twoPow_eq,BitVec.getLsbD_twoPow,decide_eq_true (by omega:(o-1).toNat<64),Bool.true_and]
theorem xC (s:BitVec 64) (o:Int):zY s o=true↔1≤o∧o≤64∧s.getLsbD (o-1).toNat=true:=by
 unfold zY
 rw [Bool.not_eq_true',decide_eq_false_iff_not]
 by_cases h:1≤o∧o≤64
 ·constructor
  ·intro h1
   refine ⟨h.1,h.2,Classical.byContradiction (fun h2=>h1 ?_)⟩
   apply BitVec.eq_of_getLsbD_eq
   intro j hj
   rw [BitVec.getLsbD_and,zvD h,BitVec.getLsbD_zero]
   by_cases e:(o-1).toNat=j
   ·rw [←e];simp only [Bool.not_eq_true] at h2;rw [h2];rfl
   ·rw [decide_eq_false e,Bool.and_false]
  ·rintro ⟨_,_,h1⟩ h2
   have:=congrArg (fun v=>BitVec.getLsbD v (o-1).toNat) h2
   simp only [BitVec.getLsbD_and,zvD h,h1,BitVec.getLsbD_zero] at this
   simp at this
 ·constructor
  ·intro h1
   exact absurd (by unfold bit;rw [if_neg h,BitVec.and_zero]) h1
  ·rintro ⟨a,b,_⟩;exact absurd ⟨a,b⟩ h
theorem wa (s:BitVec 64) {o:Int} (h:1≤o∧o≤64) (q:Int):zY (s|||bit o) q=true↔zY s q=true∨q=o:=by
 rw [xC,xC,BitVec.getLsbD_or,zvD h]
 simp only [Bool.or_eq_true,decide_eq_true_eq]
 constructor
 ·rintro ⟨a,b,c | c⟩
  ·exact .inl ⟨a,b,c⟩
  ·exact .inr (by omega)
 ·rintro (⟨a,b,c⟩ | rfl)
  ·exact ⟨a,b,.inl c⟩
  ·exact ⟨h.1,h.2,.inr rfl⟩
theorem zcx (s t:BitVec 64) (q:Int):zY (s&&&t) q=true↔zY s q=true∧zY t q=true:=by
 rw [xC,xC,xC,BitVec.getLsbD_and]
 simp only [Bool.and_eq_true]
 constructor
 ·rintro ⟨a,b,c,d⟩;exact ⟨⟨a,b,c⟩,a,b,d⟩
 ·rintro ⟨⟨a,b,c⟩,_,_,d⟩;exact ⟨a,b,c,d⟩
theorem WW (q:Int): ¬zY 0#64 q=true:=by
 rw [xC,BitVec.getLsbD_zero];exact fun h=>by cases h.2.2
theorem zuU {s t:BitVec 64} (h: ∀o,zY s o=true↔zY t o=true):s=t:=by
 apply BitVec.eq_of_getLsbD_eq
 intro j hj
 have:=h ((j:Int)+1)
 rw [xC,xC,show ((j:Int)+1-1).toNat=j by omega] at this
 rw [Bool.eq_iff_iff]
 exact ⟨fun e=>(this.1 ⟨by omega,by omega,e⟩).2.2,fun e=>(this.2 ⟨by omega,by omega,e⟩).2.2⟩
theorem zbj {m:BitVec 64} {o:Int} (h:1≤o∧o≤64): ¬(m|||bit o=m)↔¬zY m o=true:=by
 constructor
 ·intro h1 h2
  refine h1 (zuU (fun q=> ?_))
  rw [wa _ h]
  exact ⟨fun e=>e.elim id (fun e=>by rw [e];exact h2),.inl⟩
 ·intro h1 h2
  refine h1 ?_
  rw [←h2,wa _ h];exact .inr rfl
theorem WZ (t:zo) (o:Int):wT t o=1↔zY t.Marks o=true∧¬zY t.Black o=true:=by
 unfold wT
 by_cases h1:zY (t.Marks&&&t.Black) o=true
 ·rw [if_pos h1]
  rw [zcx] at h1
  exact ⟨fun e=>(by cases e),fun e=>absurd h1.2 e.2⟩
 ·rw [if_neg h1]
  rw [zcx] at h1
  by_cases h2:zY t.Marks o=true
  ·rw [if_pos h2];exact ⟨fun _=>⟨h2,fun e=>h1 ⟨h2,e⟩⟩,fun _=>rfl⟩
  ·rw [if_neg h2];exact ⟨fun e=>(by cases e),fun e=>absurd e.1 h2⟩
end
end Go.Pe.G
namespace Go.Pe.G
open Go.Pe
noncomputable section
theorem zsp {α:Type} {l:List α} {i:Nat} {x:α} (h:l[i]? =some x): ∃a b,l=a++x::b∧(∀y,l.set i y=a++y::b)∧(∀z∈a++b,∃j,j≠i∧l[j]? =some z) ∧
  (∀j z,j≠i→l[j]? =some z→z∈a++b):=by
 obtain ⟨hi,e⟩:=List.getElem?_eq_some_iff.1 h
 have hl:(l.take i).length=i:=by rw [List.length_take];omega
 have el:l=l.take i++x::l.drop (i+1):=by
  conv=>lhs;rw [←List.take_append_drop i l,List.drop_eq_getElem_cons hi,e]
 refine ⟨l.take i,l.drop (i+1),el,fun y=> ?_,fun z hz=> ?_,fun j z hj hz=> ?_⟩
 ·rw [List.set_eq_take_append_cons_drop,if_pos hi]
 ·rcases List.mem_append.1 hz with hz | hz
  ·obtain ⟨j,hj⟩:=List.mem_iff_getElem?.1 hz
   obtain ⟨hj1,hj2⟩:=List.getElem?_eq_some_iff.1 hj
   have hj3:j<i:=by omega
   exact ⟨j,by omega,by rw [List.getElem?_take_of_lt hj3] at hj;exact hj⟩
  ·obtain ⟨j,hj⟩:=List.mem_iff_getElem?.1 hz
   exact ⟨i+1+j,by omega,by rw [List.getElem?_drop] at hj;exact hj⟩
 ·rw [el] at hz
  rcases Nat.lt_or_ge j i with h1 | h1
  ·rw [List.getElem?_append_left (by omega)] at hz
   exact List.mem_append_left _ (List.mem_of_getElem? hz)
  ·rw [List.getElem?_append_right (by omega),hl] at hz
   rw [show j-i=(j-i-1)+1 by omega,List.getElem?_cons_succ] at hz
   exact List.mem_append_right _ (List.mem_of_getElem? hz)
theorem u9 {α β:Type} {f:α→List β} {a b:List α} {x:α}:List.Perm ((a++x::b).flatMap f) (f x++(a++b).flatMap f):=by
 rw [List.flatMap_append,List.flatMap_cons,List.flatMap_append]
 exact List.perm_append_comm_assoc _ _ _
theorem SX.perm {p:zb} {nb k:Nat} {s:za} {g:Gh} {o o':List Int} (X:SX p nb s g o k) (h:List.Perm o' o):SX p nb s g o' k :=
 ⟨X.S,⟨X.L.hs,X.L.cF,X.L.cE,(List.Perm.append_left _ h).trans X.L.all,X.L.len⟩,X.D,X.v,X.dk⟩
theorem SX.state {p:zb} {nb k:Nat} {s s':za} {g:Gh} {o:List Int} (X:SX p nb s g o k) (S':SOk p nb s') (hm:s'.M=s.M):SX p nb s' g o k :=
 ⟨S',by rw [hm];exact X.L,by rw [hm];exact X.D,by rw [hm];exact X.v,X.dk⟩
theorem GX.state {p:zb} {s s':za} {gh:Gh} {g:zu} (G:GX p s gh g) (hm:s'.M=s.M) (hb:s'.Bins=s.Bins):GX p s' gh g :=
 ⟨G.o,G.pc,G.md,G.ob,G.c0,by rw [hm];exact G.c5,by rw [hm,hb];exact G.c7,by rw [hm];exact G.d3⟩
theorem WX.state {p:zb} {s s':za} {gh:Gh} {w:Int} {x:zh} (W:WX p s gh w x) (hm:s'.M=s.M) (hb:s'.Bins=s.Bins):WX p s' gh w x :=
 ⟨W.c0,W.bt,by rw [hm];exact W.p0,by rw [hm];exact W.p1,by rw [hm];exact W.p2,by rw [hm];exact W.p4,fun e=>⟨(W.p6 e).1.state hm hb,(W.p6 e).2⟩⟩
theorem zcd {s s':za} {x:zh} (hm:s'.M=s.M) (hb:s'.Bins=s.Bins):zJ s' x=zJ s x:=by
 unfold zJ UH yu;rw [hm,hb]
def zpJ (p:zb) (s:za) (g:Gh):List Int:=yn p s g++s.Ws.flatMap (zJ s)
structure zaf (B:List Int) (t:zo):Prop where
 blk: ∀o,zY t.Black o=true→zY t.Marks o=true
 nd:B.Nodup
 gr: ∀o,o∈B↔wT t o=1
theorem ziE {t:zo} {o:Int} (h:wT t o=1):1≤o∧o≤64:=by
 have:=(xC _ _).1 ((WZ t o).1 h).1
 exact ⟨this.1,this.2.1⟩
theorem zaf.more {B B':List Int} {t:zo} {o:Int} (K:zaf B t) (ho:1≤o∧o≤64) (hn: ¬(t.Marks|||bit o=t.Marks)) (h:List.Perm B' (o::B)):zaf B' {t with Marks:=t.Marks|||bit o}:=by
 have hn:=(zbj ho).1 hn
 have hnb: ¬zY t.Black o=true:=fun e=>hn (K.blk o e)
 have hno:o∉B:=fun e=>hn ((WZ t o).1 ((K.gr o).1 e)).1
 refine ⟨fun q hq=>(wa _ ho q).2 (.inl (K.blk q hq)),h.nodup_iff.2 (List.nodup_cons.2 ⟨hno,K.nd⟩),fun q=> ?_⟩
 rw [h.mem_iff,List.mem_cons,K.gr,WZ,WZ]
 show q=o∨_↔zY (t.Marks|||bit o) q=true∧¬zY t.Black q=true
 rw [wa _ ho]
 constructor
 ·rintro (rfl | ⟨a,b⟩)
  ·exact ⟨.inr rfl,hnb⟩
  ·exact ⟨.inl a,b⟩
 ·rintro ⟨a | a,b⟩
  ·exact .inr ⟨a,b⟩
  ·exact .inl a
theorem zaf.less {B B':List Int} {t:zo} {o:Int} (K:zaf B t) (h:List.Perm (B'++[o]) B):zaf B' (wJ t o)∧(wJ t o).Marks=t.Marks∧wT t o=1∧∀q,zY (wJ t o).Black q=true↔zY t.Black q=true∨q=o:=by
 have ho:wT t o=1:=(K.gr o).1 (h.mem_iff.1 (by simp))
 have hr:=ziE ho
 have hm:=((WZ t o).1 ho)
 have hnd:=h.nodup_iff.2 K.nd
 have hnd:=List.nodup_append.1 hnd
 unfold wJ
 rw [if_pos ho]
 refine ⟨⟨fun q hq=> ?_,hnd.1,fun q=> ?_⟩,rfl,ho,fun q=>wa _ hr q⟩
 ·rcases (wa _ hr q).1 hq with e | e
  ·exact K.blk q e
  ·rw [e];exact hm.1
 ·have e1:q∈B↔q∈B'∨q=o:=by rw [←h.mem_iff,List.mem_append,List.mem_singleton]
  rw [K.gr,WZ] at e1
  rw [WZ]
  show _↔zY t.Marks q=true∧¬zY (t.Black|||bit o) q=true
  rw [wa _ hr]
  constructor
  ·intro hq
   have:=e1.2 (.inl hq)
   exact ⟨this.1,fun e=>e.elim this.2 (fun e=>hnd.2.2 q hq o (by simp) e)⟩
  ·rintro ⟨a,b⟩
   rcases e1.1 ⟨a,fun e=>b (.inl e)⟩ with e | e
   ·exact e
   ·exact absurd (.inr e) b
theorem HOk.get {p:zb} (hp:zB p) {h:zt} (H:HOk p h) (o i:Int):0≤xx h o i∧xx h o i≤64:=by
 have h1:=H.n
 have h2:p.Most≤64:=by have:=hp.most;have:=hp.n;omega
 unfold xx
 split
 ·unfold zV
  rw [List.getD_eq_getElem?_getD,List.getD_eq_getElem?_getD]
  cases hx:h.Objs[(o-1).toNat]? with
  | none=>show 0≤(([]:List Int)[i.toNat]?).getD 0∧_;simp
  | some l =>
   show 0≤(l[i.toNat]?).getD 0∧(l[i.toNat]?).getD 0≤64
   cases hv:l[i.toNat]? with
   | none=>show (0:Int)≤0∧(0:Int)≤64;decide
   | some v =>
    have:=(H.objs l (List.mem_of_getElem? hx)).2 v (List.mem_of_getElem? hv)
    show 0≤v∧v≤64;omega
 ·exact ⟨by decide,by decide⟩
structure WG (p:zb) (nb k:Nat) (s:za) (gh:Gh):Prop where
 E:EOk p nb s
 X:SX p nb s gh (s.Ws.flatMap wg) k
 W: ∀(i:Nat) x,s.Ws[i]? =some x→WX p s gh ((i:Int)+1) x
 B:zaf (zpJ p s gh) s.T
def zD4 (s s':za) (w:Int):Prop :=
 s'.T=s.T∨(∃x o,s.Ws[(w-1).toNat]? =some x∧x.PC=6∧o=x.G.Obj∧(1≤o∧o≤64)∧¬zY s.T.Marks o=true∧s'.T={s.T with Marks:=s.T.Marks|||bit o}) ∨
  (∃x,s.Ws[(w-1).toNat]? =some x∧x.PC=8∧wT s.T x.Obj=1∧s'.T={s.T with Black:=s.T.Black|||bit x.Obj})
theorem WG.step {p:zb} (hp:zB p) {nb k:Nat} {s:za} {gh:Gh} (hk:k<4294960000) (G:WG p nb k s gh) {w:Int} (hw:1≤w∧w≤p.Workers) (hd:s.Done=false): ∃gh',WG p nb (k+1) (yz s w) gh'∧zD4 s (yz s w) w:=by
 have hE:=zsb hp G.E w
 have hwl:=G.E.wl
 have e0: ¬(s.Done=true∨w<1∨(s.Ws.length:Int)<w):=by rw [hd];rintro (e | e | e)<;>first | cases e | omega
 revert hE
 unfold yz
 rw [if_neg e0]
 have hi:(w-1).toNat<s.Ws.length:=by omega
 have hx:=List.getElem?_eq_getElem hi
 generalize s.Ws[(w-1).toNat]=x at hx
 rw [hx]
 dsimp only
 intro hE
 obtain ⟨a,b,el,es,hab,hba⟩:=zsp hx
 have ei:(((w-1).toNat:Nat):Int)+1=w:=by omega
 have hWX:=G.W _ x hx
 have hWO:=G.E.W _ x hx
 rw [ei] at hWX hWO
 have X0:SX p nb s gh (wg x++(a++b).flatMap wg) k:=G.X.perm (by rw [el];exact u9.symm)
 obtain ⟨gh',X',W',Fx,N,C,hN,hT⟩:=zD5 hp hk hw X0 hWO hWX (fun o i=>G.E.H.get hp o i)
 have hoth: ∀(j:Nat) y,j≠(w-1).toNat→s.Ws[j]? =some y→WX p (zp s w x).1 gh' ((j:Int)+1) y∧zJ (zp s w x).1 y=zJ s y:=by
  intro j y hj hy
  have hjl:=(List.getElem?_eq_some_iff.1 hy).1
  exact WX.other hp (w:=(j:Int)+1) (by omega) X0 Fx (G.W j y hy) (G.E.W j y hy) (fun z hz=>List.mem_flatMap.2 ⟨y,hba j y hj hy,hz⟩) (fun e=>hj (by omega))
 have hbag:List.Perm (zpJ p {(zp s w x).1 with Ws:=s.Ws.set (w-1).toNat (zp s w x).2} gh'++C) (N++zpJ p s gh):=by
  unfold zpJ
  have q1:yn p {(zp s w x).1 with Ws:=s.Ws.set (w-1).toNat (zp s w x).2} gh'=yn p (zp s w x).1 gh':=rfl
  have q2:(s.Ws.set (w-1).toNat (zp s w x).2).flatMap (zJ {(zp s w x).1 with Ws:=s.Ws.set (w-1).toNat (zp s w x).2})=(a++(zp s w x).2::b).flatMap (zJ (zp s w x).1):=by
   rw [es];exact xB (fun y _=>zcd rfl rfl)
  have q3:(a++b).flatMap (zJ (zp s w x).1)=(a++b).flatMap (zJ s):=xB (fun y hy=>by
   obtain ⟨j,hj,hjy⟩:=hab y hy
   exact (hoth j y hj hjy).2)
  rw [q1]
  show List.Perm (yn p (zp s w x).1 gh'++(s.Ws.set (w-1).toNat (zp s w x).2).flatMap (zJ {(zp s w x).1 with Ws:=s.Ws.set (w-1).toNat (zp s w x).2})++C) _
  rw [q2]
  have r1:List.Perm (yn p (zp s w x).1 gh'++(a++(zp s w x).2::b).flatMap (zJ (zp s w x).1)++C) ((a++b).flatMap (zJ s)++(yn p (zp s w x).1 gh'++zJ (zp s w x).1 (zp s w x).2++C)):=by
   refine ((List.Perm.append_left _ u9).append_right C).trans ?_
   rw [q3,List.append_assoc,List.append_assoc,List.append_assoc]
   refine (List.perm_append_comm_assoc _ _ _).trans ?_
   refine (List.Perm.append_left _ (List.perm_append_comm_assoc _ _ _)).trans ?_
   refine (List.perm_append_comm_assoc _ _ _).trans (List.Perm.append_left _ ?_)
   exact List.perm_append_comm_assoc _ _ _
  have r2:List.Perm (N++(yn p s gh++s.Ws.flatMap (zJ s))) ((a++b).flatMap (zJ s)++(N++(yn p s gh++zJ s x))):=by
   conv=>lhs;rw [el]
   refine (List.Perm.append_left _ (List.Perm.append_left _ u9)).trans ?_
   refine (List.Perm.append_left _ ?_).trans (List.perm_append_comm_assoc _ _ _)
   rw [←List.append_assoc]
   exact List.perm_append_comm
  exact r1.trans ((List.Perm.append_left _ hN).trans r2.symm)
 have fin:zaf (zpJ p {(zp s w x).1 with Ws:=s.Ws.set (w-1).toNat (zp s w x).2} gh') (zp s w x).1.T→WG p nb (k+1) {(zp s w x).1 with Ws:=s.Ws.set (w-1).toNat (zp s w x).2} gh':=by
  intro hB
  refine ⟨hE,?_,fun j y hy=> ?_,hB⟩
  ·refine (X'.state hE.S rfl).perm ?_
   show List.Perm ((s.Ws.set (w-1).toNat (zp s w x).2).flatMap wg) _
   rw [es];exact u9
  ·have hy:(s.Ws.set (w-1).toNat (zp s w x).2)[j]? =some y:=hy
   by_cases hj:j=(w-1).toNat
   ·subst hj
    rw [List.getElem?_set_self hi] at hy
    injection hy with hy
    rw [←hy,ei]
    exact W'.state rfl rfl
   ·rw [List.getElem?_set_ne (fun e=>hj e.symm)] at hy
    exact (hoth j y hj hy).1.state rfl rfl
 refine ⟨gh',?_⟩
 rcases hT with ⟨rfl,rfl,t1⟩ | ⟨rfl,rfl,t1,t2,t3⟩ | ⟨rfl,rfl,t1,t2⟩
 ·rw [List.append_nil,List.nil_append] at hbag
  refine ⟨fin ⟨?_,hbag.nodup_iff.2 G.B.nd,fun o=> ?_⟩,.inl t1⟩
  ·rw [t1];exact G.B.blk
  ·rw [t1,hbag.mem_iff];exact G.B.gr o
 ·have ho:=((hWX.p6 t1).1).ob
  rw [List.append_nil] at hbag
  refine ⟨fin ?_,.inr (.inl ⟨x,x.G.Obj,hx,t1,rfl,ho,(zbj ho).1 t2,t3⟩)⟩
  rw [t3]
  exact G.B.more ho t2 hbag
 ·rw [List.nil_append] at hbag
  obtain ⟨b1,b2,b3,b4⟩:=G.B.less hbag
  refine ⟨fin ?_,.inr (.inr ⟨x,hx,t1,b3,?_⟩)⟩
  ·rw [t2];exact b1
  ·show (zp s w x).1.T=_
   rw [t2];unfold wJ;rw [if_pos b3]
end
end Go.Pe.G
namespace Go.Pe.G
open Go.Pe
noncomputable section
theorem znA {N:Int} {nb:Nat} (hN:0≤N∧N<1000) (hnb:nb<1000): ∀(l:List Int) (m:List (BitVec 64)) (a:Int),(∀x∈l,1≤x∧x<nb)→(∀x∈l,a≠N+x)→ld (links m N l) a=ld m a
 | [],m,a,_,_=>rfl
 | [x],m,a,h,h2=>by
  have:=h x (by simp)
  have:=h2 x (by simp)
  rw [links,xu (by omega) (by omega)]
  exact yo (by omega)
 | x::y::l,m,a,h,h2=>by
  have:=h x (by simp)
  have:=h2 x (by simp)
  rw [links,znA hN hnb (y::l) _ a (fun z hz=>h z (List.mem_cons_of_mem _ hz)) (fun z hz=>h2 z (List.mem_cons_of_mem _ hz)),xu (by omega) (by omega)]
  exact yo (by omega)
theorem zqf {N:Int} {nb:Nat} (hN:0≤N∧N<1000) (hnb:nb<1000): ∀(l:List Int) (m:List (BitVec 64)),(∀x∈l,1≤x∧x<nb)→l.Nodup→N+nb≤m.length→Chn (links m N l) N nb (l.headD 0) l
 | [],m,_,_,_=>rfl
 | [x],m,h,_,hl=>by
  have:=h x (by simp)
  refine ⟨rfl,this.1,this.2,?_⟩
  rw [links,xu (by omega) (by omega),Wj,if_pos ⟨rfl,by omega,by omega⟩]
  rfl
 | x::y::l,m,h,hd,hl=>by
  have hx:=h x (by simp)
  have hy:=h y (by simp)
  have hd:=List.nodup_cons.1 hd
  refine ⟨rfl,hx.1,hx.2,?_⟩
  have ih:=zqf hN hnb (y::l) (st m (wc (N+x)) (BitVec.ofInt 64 y)) (fun z hz=>h z (List.mem_cons_of_mem _ hz)) hd.2 (by rw [ZJ];exact hl)
  rw [links,znA hN hnb (y::l) _ (N+x) (fun z hz=>h z (List.mem_cons_of_mem _ hz)) (fun z hz e=>hd.1 (by rw [zmF e] at hz;exact hz)),xu (by omega) (by omega),Wj,if_pos ⟨rfl,by omega,by omega⟩,toInt_ofInt (by omega) (by omega)]
  rw [xu (by omega) (by omega)] at ih
  exact ih
theorem Chn.links {N:Int} {nb:Nat} (hN:0≤N∧N<1000) (hnb:nb<1000) {l r:List Int} {h:Int} {m:List (BitVec 64)} (hr: ∀x∈r,1≤x∧x<nb) (hd: ∀x∈l,x∉r) (c:Chn m N nb h l):Chn (Go.Pe.G.links m N r) N nb h l:=by
 induction l generalizing h with
 | nil=>exact c
 | cons y l ih =>
  refine ⟨c.1,c.2.1,c.2.2.1,?_⟩
  rw [znA hN hnb r m (N+y) hr (fun z hz e=>hd y (by simp) (by rw [zmF e] at hz;exact hz))]
  exact ih (fun x hx=>hd x (List.mem_cons_of_mem _ hx)) c.2.2.2
theorem zxJ {l:List Int} {nb:Nat} (h: ∀x∈l,1≤x∧x<nb) (hnb:nb<1000):0≤l.headD 0∧l.headD 0<4294967296:=by
 cases l with
 | nil=>exact ⟨by decide,by decide⟩
 | cons a r=>have:=h a (by simp);show 0≤a∧a<4294967296;omega
theorem zCH {p:zb} (h:zB p):LI p (zQ p+1) (yv p).M (zZ p) (zD p) ((xl (zQ p)).take (yV p).length) ((xl (zQ p)).drop (yV p).length) []∧xf (ld (yv p).M (zZ p))=0∧xf (ld (yv p).M (zD p))=0:=by
 have hb:=zcu h
 have hF:=Zw h
 have hE:=wo h
 have hcl:=Uz p p.Workers.toNat
 have hw:=h.wk
 have hc:=h.cap
 have hfe:zZ p=((p.Workers.toNat*(p.Cap.toNat+2):Nat):Int):=by
  rw [hF.1]
  have e1:p.Workers=((p.Workers.toNat:Nat):Int):=by omega
  have e2:p.Cap+2=((p.Cap.toNat+2:Nat):Int):=by omega
  rw [e2,Int.natCast_mul]
  rw [←e1]
 have hN:0≤zD p∧zD p<1000:=by omega
 have hnb:zQ p+1<1000:=by omega
 generalize hk:(yV p).length=k
 have t1: ∀x∈(xl (zQ p)).take k,1≤x∧x<((zQ p+1:Nat):Int):=fun x hx=>by have:=ze2 (List.mem_of_mem_take hx);omega
 have t2: ∀x∈(xl (zQ p)).drop k,1≤x∧x<((zQ p+1:Nat):Int):=fun x hx=>by have:=ze2 (List.mem_of_mem_drop hx);omega
 have nd:((xl (zQ p)).take k++(xl (zQ p)).drop k).Nodup:=by rw [List.take_append_drop];exact zrq (zQ p+1)
 have nd3:=List.nodup_append.1 nd
 have eM:(yv p).M=zcv (zcv (YA p p.Workers.toNat++List.replicate (2+zQ p) 0#64) (zZ p) (zD p) ((xl (zQ p)).take k)) (zD p) (zD p) ((xl (zQ p)).drop k):=by rw [←hk];rfl
 rw [eM]
 generalize hm0:YA p p.Workers.toNat++List.replicate (2+zQ p) 0#64=m0
 have l0:zD p+((zQ p+1:Nat):Int)≤m0.length:=by
  rw [←hm0,List.length_append,hcl,List.length_replicate];omega
 have p1:=zxJ t1 hnb
 have p2:=zxJ t2 hnb
 have v0: ∀n:Int,0≤n→n<4294967296→xf (yZ 0#64 n)=0:=fun n h1 h2=>by
  unfold xf;rw [zt2 _ h1 h2];show (0*4294967296+n.toNat)/4294967296=0;omega
 have c1:=zqf hN hnb _ m0 t1 nd3.1 l0
 generalize hm1:links m0 (zD p) ((xl (zQ p)).take k)=m1 at c1
 have l1:m1.length=m0.length:=by rw [←hm1,zcS]
 have c1':=(c1.st_head h (a:=zZ p) (v:=yZ 0#64 (((xl (zQ p)).take k).headD 0)) (.inl rfl)).links hN hnb t2 (fun x hx hx2=>nd3.2.2 x hx x hx2 rfl)
 have c2:=zqf hN hnb _ (st m1 (zZ p) (yZ 0#64 (((xl (zQ p)).take k).headD 0))) t2 nd3.2.1 (by rw [ZJ,l1];exact l0)
 have hd1:ld (links (st m1 (zZ p) (yZ 0#64 (((xl (zQ p)).take k).headD 0))) (zD p) ((xl (zQ p)).drop k)) (zZ p)=yZ 0#64 (((xl (zQ p)).take k).headD 0):=by
  rw [znA hN hnb _ _ _ t2 (fun x hx=>by have:=t2 x hx;omega),Wj,if_pos ⟨rfl,by omega,by omega⟩]
 unfold zcv
 rw [hm1]
 generalize hm2:links (st m1 (zZ p) (yZ 0#64 (((xl (zQ p)).take k).headD 0))) (zD p) ((xl (zQ p)).drop k)=m2 at c1' c2 hd1
 have l2:m2.length=m0.length:=by rw [←hm2,zcS,ZJ,l1]
 have g1:ld (st m2 (zD p) (yZ 0#64 (((xl (zQ p)).drop k).headD 0))) (zZ p)=yZ 0#64 (((xl (zQ p)).take k).headD 0):=by rw [yo (by omega),hd1]
 have g2:ld (st m2 (zD p) (yZ 0#64 (((xl (zQ p)).drop k).headD 0))) (zD p)=yZ 0#64 (((xl (zQ p)).drop k).headD 0):=by rw [Wj,if_pos ⟨rfl,by omega,by omega⟩]
 refine ⟨⟨.inl ⟨rfl,rfl⟩,?_,?_,?_,by rw [ZJ,l2];exact l0⟩,?_,?_⟩
 ·rw [g1,zcO _ p1.1 p1.2]
  exact c1'.st_head h (.inr rfl)
 ·rw [g2,zcO _ p2.1 p2.2]
  exact c2.st_head h (.inr rfl)
 ·rw [List.append_nil,List.take_append_drop]
  exact List.Perm.refl _
 ·rw [g1];exact v0 _ p1.1 p1.2
 ·rw [g2];exact v0 _ p2.1 p2.2
end
end Go.Pe.G
namespace Go.Pe.G
open Go.Pe
noncomputable section
theorem zqe {N:Int} (hN:0≤N∧N<1000): ∀(l:List Int) (m:List (BitVec 64)) (a:Int),(∀x∈l,1≤x∧x<1000)→a≤N→ld (links m N l) a=ld m a
 | [],m,a,_,_=>rfl
 | [x],m,a,h,h2=>by
  have:=h x (by simp)
  rw [links,xu (by omega) (by omega)]
  exact yo (by omega)
 | x::y::l,m,a,h,h2=>by
  have:=h x (by simp)
  rw [links,zqe hN (y::l) _ a (fun z hz=>h z (List.mem_cons_of_mem _ hz)) h2,xu (by omega) (by omega)]
  exact yo (by omega)
theorem zEs {p:zb} (h:zB p) {a:Int} (ha:a<zZ p):ld (yv p).M a=ld (YA p p.Workers.toNat++List.replicate (2+zQ p) 0#64) a:=by
 have hb:=zcu h
 have hF:=Zw h
 have hE:=wo h
 have t1: ∀x∈(xl (zQ p)).take (yV p).length,1≤x∧x<1000:=fun x hx=>by have:=ze2 (List.mem_of_mem_take hx);omega
 have t2: ∀x∈(xl (zQ p)).drop (yV p).length,1≤x∧x<1000:=fun x hx=>by have:=ze2 (List.mem_of_mem_drop hx);omega
 show ld (zcv (zcv _ (zZ p) (zD p) _) (zD p) (zD p) _) a=_
 unfold zcv
 rw [yo (by omega),zqe (by omega) _ _ _ t2 (by omega),yo (by omega),zqe (by omega) _ _ _ t1 (by omega)]
theorem zv0 (p:zb): ∀(k i j:Nat),i<k→j<p.Cap.toNat+2→(YA p k)[i*(p.Cap.toNat+2)+j]? =(zgE p.Cap)[j]?
 | 0,i,j,h,_=>by omega
 | k+1,i,j,h,hj=>by
  rw [zmv]
  have hl:=Uz p k
  rcases Nat.lt_or_ge i k with h1 | h1
  ·have h2:=Nat.mul_le_mul_right (p.Cap.toNat+2) (show i+1≤k from h1)
   rw [Nat.succ_mul] at h2
   rw [List.getElem?_append_left (by omega)]
   exact zv0 p k i j h1 hj
  ·have:i=k:=by omega
   subst this
   rw [List.getElem?_append_right (by omega),hl,show i*(p.Cap.toNat+2)+j-i*(p.Cap.toNat+2)=j by omega]
theorem zxO {p:zb} (h:zB p) {w:Int} (hw:1≤w∧w≤p.Workers) {j:Nat} (hj:j<2):ld (yv p).M (zI p w+j)=1#64:=by
 have hd:=Ye h hw.1 hw.2
 have hc:=h.cap
 have hl:=Uz p p.Workers.toNat
 have hlt:(w-1).toNat<p.Workers.toNat:=by omega
 have e1:(zI p w+j).toNat=(w-1).toNat*(p.Cap.toNat+2)+j:=by
  obtain ⟨n,hn⟩: ∃n:Nat,w-1=(n:Int):=⟨(w-1).toNat,by omega⟩
  have e2:p.Cap+2=((p.Cap.toNat+2:Nat):Int):=by omega
  rw [hd.1,hn,e2,←Int.natCast_mul,Int.toNat_natCast]
  omega
 have h2:=Nat.mul_le_mul_right (p.Cap.toNat+2) (show (w-1).toNat+1≤p.Workers.toNat from hlt)
 rw [Nat.succ_mul] at h2
 rw [zEs h (by omega)]
 unfold ld
 rw [if_pos (by omega),e1,List.getD_eq_getElem?_getD,List.getElem?_append_left (by omega),zv0 p _ _ _ hlt (by omega)]
 unfold zgE
 match j,hj with
 | 0,_=>rfl
 | 1,_=>rfl
theorem zrm (n:Nat) (hn:1≤n): ∀(f:Nat) (l:List Int),l.length≤f→(vl n f l).flatten=l
 | 0,l,h=>by
  have:l=[]:=List.length_eq_zero_iff.1 (by omega)
  subst this;simp [vl]
 | f+1,[],_=>by simp [vl]
 | f+1,x::l,h=>by
  have:=zrm n hn f ((x::l).drop n) (by rw [List.length_drop];simp at h ⊢;omega)
  simp only [vl,List.flatten_cons] at this ⊢
  rw [this,List.take_append_drop]
theorem zCe {α:Type} (l:List (List α)):(List.range l.length).flatMap (fun i:Nat=>(l[i]?).getD [])=l.flatten:=by
 rw [List.flatMap_def]
 congr 1
 apply List.ext_getElem
 ·simp
 ·intro i h1 h2
  simp [List.getElem?_eq_getElem h2]
def gh0 (p:zb):Gh:=⟨(xl (zQ p)).take (yV p).length,(xl (zQ p)).drop (yV p).length,fun _=>[],fun _=>1,fun _=>0⟩
theorem zaW {α β:Type} {f:α→List β}: ∀ {l:List α},(∀x∈l,f x=[])→l.flatMap f=[]
 | [],_=>rfl
 | a::l,h=>by rw [List.flatMap_cons,h a (by simp),zaW (fun x hx=>h x (List.mem_cons_of_mem _ hx))];rfl
theorem zzS {p:zb} (h:zB p):yn p (yv p) (gh0 p)=Wi (Z9 p):=by
 have hb:=h.bin
 have hfl:=znC h
 have hbs:=zcu h
 have hmost:=h.most
 have hw:=h.wk
 have hm:=h.mt
 have e1:yn p (yv p) (gh0 p)=((xl (zQ p)).take (yV p).length).flatMap (yu (yv p)):=by
  show ((xl (zQ p)).take (yV p).length).flatMap (yu (yv p))++(List.range p.Workers.toNat).flatMap (fun _=>([]:List Int))=_
  rw [zaW (f:=fun _=>([]:List Int)) (fun _ _=>rfl),List.append_nil]
 have e2:(xl (zQ p)).take (yV p).length=(List.range (yV p).length).map (fun i:Nat=>(i:Int)+1):=by
  unfold xl
  rw [←List.map_take,List.take_range,Nat.min_eq_left (by omega)]
 rw [e1,e2,List.flatMap_map]
 have e3:(List.range (yV p).length).flatMap (fun i:Nat=>yu (yv p) ((i:Int)+1))=(List.range (yV p).length).flatMap (fun i:Nat=>((yV p)[i]?).getD []):=by
  refine xB (fun i hi=> ?_)
  have hi:=List.mem_range.1 hi
  unfold yu
  show (([[]]++yV p++List.replicate (zQ p-(yV p).length) [])[((i:Int)+1).toNat]?).getD []=_
  rw [show ((i:Int)+1).toNat=i+1 by omega,List.append_assoc]
  show ((yV p++List.replicate (zQ p-(yV p).length) [])[i]?).getD []=_
  rw [List.getElem?_append_left hi]
 rw [e3,zCe]
 exact zrm _ (by omega) _ _ (Nat.le_refl _)
theorem zze (s:BitVec 64):(Wi s).Nodup:=by
 unfold Wi
 rw [List.Nodup,List.pairwise_map]
 exact (List.nodup_range.filter _).imp (fun h e=>h (by omega))
theorem zAE {s:BitVec 64} (h:s&&& ~~~63#64=0#64) {j:Nat} (hs:s.getLsbD j=true):j<6:=by
 have hj:j<64:=BitVec.lt_of_getLsbD hs
 have:=congrArg (fun x=>x.getLsbD j) h
 simp only [BitVec.getLsbD_and,BitVec.getLsbD_not,hs,hj,decide_true,Bool.true_and,BitVec.getLsbD_zero] at this
 have h63:(63#64).getLsbD j=decide (j<6):=by
  have: ∀j:Fin 64,(63#64).getLsbD j.1=decide (j.1<6):=by decide
  exact this ⟨j,hj⟩
 rw [h63] at this
 by_cases e:j<6
 ·exact e
 ·rw [decide_eq_false e] at this;cases this
theorem zB7 {s:BitVec 64} (h:s&&& ~~~63#64=0#64) (o:Int):o∈Wi s↔zY s o=true:=by
 unfold Wi
 rw [xC,List.mem_map]
 constructor
 ·rintro ⟨i,hi,rfl⟩
  obtain ⟨h1,h2⟩:=List.mem_filter.1 hi
  have:=List.mem_range.1 h1
  exact ⟨by omega,by omega,by rw [show ((i:Int)+1-1).toNat=i by omega];exact h2⟩
 ·rintro ⟨h1,h2,h3⟩
  exact ⟨(o-1).toNat,List.mem_filter.2 ⟨List.mem_range.2 (zAE h h3),h3⟩,by omega⟩
theorem zFB {p:zb} (h:zB p):WG p (zQ p+1) 0 (yv p) (gh0 p):=by
 have hE:=zBX h
 obtain ⟨L,v1,v2⟩:=zCH h
 have hc:=h.cap
 have hws: ∀x∈(yv p).Ws,∃i:Nat,x=ux p i:=fun x hx=>by
  obtain ⟨i,_,rfl⟩:=List.mem_map.1 (show x∈(List.range p.Workers.toNat).map (ux p) from hx)
  exact ⟨i,rfl⟩
 have hb: ∀i:Nat,ux p i=VV p ((i:Int)+1) (ux p i):=fun i=>rfl
 have own:(yv p).Ws.flatMap wg=[]:=zaW (fun x hx=>by
  obtain ⟨i,rfl⟩:=hws x hx
  exact vX (by show (0:Int)≠3;decide) (by show (0:Int)≠4;decide) (by show (0:Int)≠6;decide))
 have hold:(yv p).Ws.flatMap (zJ (yv p))=[]:=zaW (fun x hx=>by
  obtain ⟨i,rfl⟩:=hws x hx
  unfold zJ
  rw [hb i,ziD];rfl)
 refine ⟨hE,⟨hE.S,by rw [own];exact L,fun w h1 h2=> ?_,?_,fun w _ _=>by show 1+0≤0+1000;decide⟩,fun i x hx=> ?_,?_⟩
 ·have c0:=zxO h ⟨h1,h2⟩ (j:=0) (by decide)
  have c1:=zxO h ⟨h1,h2⟩ (j:=1) (by decide)
  rw [show zI p w+((0:Nat):Int)=zI p w by omega] at c0
  exact ⟨c0,c1,by show (0:Nat)≤1;decide,by show (1:Nat)≤1;decide,Nat.zero_le _,by show 1+0<4294967296;decide,fun i hi=>absurd hi (Nat.not_lt_zero _)⟩
 ·rw [v1,v2];exact ⟨Nat.le_refl _,Nat.le_refl _⟩
 ·have hx:((List.range p.Workers.toNat).map (ux p))[i]? =some x:=hx
  rw [List.getElem?_map] at hx
  cases hr:(List.range p.Workers.toNat)[i]? with
  | none=>rw [hr] at hx;cases hx
  | some j =>
   rw [hr] at hx
   injection hx with hx
   obtain ⟨h1,h2⟩:=List.getElem?_eq_some_iff.1 hr
   rw [List.getElem_range] at h2
   subst h2
   rw [←hx,hb i]
   exact WX.begin rfl rfl
 ·have hs:=zfK h
  unfold zpJ
  rw [hold,List.append_nil,zzS h]
  refine ⟨fun o ho=>absurd ho (WW o),zze _,fun o=> ?_⟩
  rw [zB7 hs,WZ]
  exact ⟨fun e=>⟨e,WW o⟩,fun e=>e.1⟩
theorem zwt (n:Nat) (hn:1≤n): ∀(f:Nat) (l c:List Int),c∈vl n f l→c≠[]
 | 0,l,c,h=>by simp [vl] at h
 | f+1,[],c,h=>by simp [vl] at h
 | f+1,x::l,c,h=>by
  simp only [vl,List.mem_cons] at h
  rcases h with h | h
  ·rw [h]
   match n,hn with
   | m+1,_=>exact List.cons_ne_nil _ _
  ·exact zwt n hn f _ c h
theorem zFc {p:zb} (h:zB p): ∀y∈(gh0 p).F,yu (yv p) y≠[]:=by
 intro y hy
 have hb:=h.bin
 have hfl:=znC h
 have hbs:=zcu h
 have hmost:=h.most
 have hw:=h.wk
 have hm:=h.mt
 have hy:y∈(xl (zQ p)).take (yV p).length:=hy
 have e2:(xl (zQ p)).take (yV p).length=(List.range (yV p).length).map (fun i:Nat=>(i:Int)+1):=by
  unfold xl
  rw [←List.map_take,List.take_range,Nat.min_eq_left (by omega)]
 rw [e2] at hy
 obtain ⟨i,hi,rfl⟩:=List.mem_map.1 hy
 have hi:=List.mem_range.1 hi
 unfold yu
 show (([[]]++yV p++List.replicate (zQ p-(yV p).length) [])[((i:Int)+1).toNat]?).getD []≠[]
 rw [show ((i:Int)+1).toNat=i+1 by omega,List.append_assoc]
 show ((yV p++List.replicate (zQ p-(yV p).length) [])[i]?).getD []≠[]
 rw [List.getElem?_append_left hi,List.getElem?_eq_getElem hi]
 exact zwt _ (by omega) _ _ _ (List.getElem_mem hi)
end
end Go.Pe.G
namespace Go.Pe.G
open Go.Pe
noncomputable section
def noD (base cap:Int):zd:=⟨0,0,base,cap,0#64,0#64,0,0⟩
def ziT (o:zd):Prop:=o.Kind=2∧o.Out=0∧(o.PC=2∨o.PC=4∨o.PC=5∨(o.PC=3∧o.T=o.B-1#64))
instance (o:zd):Decidable (ziT o):=by unfold ziT;infer_instance
def zfr (m:List (BitVec 64)) (base:Int) (o:zd):BitVec 64:=if ziT o then ld m (wc (base+1))+1#64 else ld m (wc (base+1))
def Yy (m:List (BitVec 64)) (base cap:Int) (top:BitVec 64) (n:Nat):List Int:=(List.range n).map (fun j:Nat=>(ld m (YL (noD base cap) (top+BitVec.ofNat 64 j))).toInt)
def XO (m:List (BitVec 64)) (base cap:Int) (o:zd):List Int :=
 if ¬0<(zfr m base o-ld m base).toInt∨(min (v8 (noD base cap)).toNat 64)<(zfr m base o-ld m base).toNat then []
 else Yy m base cap (ld m base) (zfr m base o-ld m base).toNat
theorem zED {p:zb} (h:zB p) (b:Int):(v8 (noD b p.Cap)).toNat=p.Cap.toNat:=by
 have hc:=h.cap
 have hx:p.Cap=1∨p.Cap=2∨p.Cap=3:=by omega
 unfold v8 noD
 rcases hx with e | e | e<;>simp only [e]<;>decide
theorem zAg {a b:Nat} (h:b≤a) (h2:a<4294967296):BitVec.ofNat 64 a-BitVec.ofNat 64 b=BitVec.ofNat 64 (a-b):=zgH h (by omega)
theorem zys {p:zb} (h:zB p) {m:List (BitVec 64)} {w:Int} {t c:Nat} {l:List Int} {o:zd} (hw:1≤w∧w≤p.Workers) (D:DQ p m w t l c) (he:zfr m (zI p w) o=BitVec.ofNat 64 (t+l.length)):XO m (zI p w) p.Cap o=l:=by
 have hs:=D.small
 have hcap:=D.cap
 have hc:=h.cap
 have ed:zfr m (zI p w) o-ld m (zI p w)=BitVec.ofNat 64 l.length:=by
  rw [he,D.top,zAg (by omega) hs];congr 1;omega
 unfold XO
 rw [ed,Zy (by omega),zED h]
 by_cases hl:l=[]
 ·subst hl
  rw [if_pos (.inl (by decide))]
 ·have hpos:0<l.length:=List.length_pos_iff.2 hl
  have:0<(BitVec.ofNat 64 l.length).toInt:=by
   have:=(zgm (a:=t+l.length) (b:=t) hs (by omega)).2 (by omega)
   rw [zAg (by omega) hs] at this
   rwa [show t+l.length-t=l.length by omega] at this
  rw [if_neg (by omega)]
  unfold Yy
  apply List.ext_getElem
  ·simp
  ·intro i h1 h2
   rw [List.getElem_map,List.getElem_range,D.top,zcP (by omega),zgo h hw rfl rfl (by omega),D.cell i h2]
theorem zB9 {p:zb} (h:zB p) {m:List (BitVec 64)} {w:Int} {t c:Nat} {o:zd} (D:DQ p m w t [] c) (he:zfr m (zI p w) o=BitVec.ofNat 64 (t-1)):XO m (zI p w) p.Cap o=[]:=by
 have hs:=D.small
 unfold XO
 refine if_pos (.inl (fun e=> ?_))
 rw [he,D.top] at e
 have:=(zgm (by have:t+0<4294967296:=hs;omega) (by have:t+0<4294967296:=hs;omega)).1 e
 omega
theorem zyN {p:zb} (h:zB p) {w:Int} (hw:1≤w∧w≤p.Workers):wc (zI p w+1)=zI p w+1:=by
 have hd:=Ye h hw.1 hw.2
 have hf:=Zw h
 have hc:=h.cap
 exact xu (by omega) (by omega)
theorem zog {p:zb} (h:zB p) {m:List (BitVec 64)} {w:Int} {t:Nat} {l:List Int} {o:zd} (hw:1≤w∧w≤p.Workers) (D:DQ p m w t l 0) (ho: ¬ziT o):XO m (zI p w) p.Cap o=l:=by
 refine zys h hw D ?_
 unfold zfr
 rw [if_neg ho,zyN h hw,D.bot];rfl
theorem zBq {p:zb} (h:zB p) {m:List (BitVec 64)} {w:Int} {t c:Nat} {l:List Int} {o:zd} (hw:1≤w∧w≤p.Workers) (D:DQ p m w t l c) (K:PK p m w t l c o):XO m (zI p w) p.Cap o=l:=by
 have hs:=D.small
 have ht:=D.t1
 have hpc:=K.pc
 by_cases h1:ziT o
 ·have hc:c=1:=by
   rcases h1.2.2 with e | e | e | ⟨e,e2⟩
   ·exact K.c1 (.inl e)
   ·exact K.c1 (.inr (by omega))
   ·exact K.c1 (.inr (by omega))
   ·exact K.c3 e e2
  subst hc
  refine zys h hw D ?_
  unfold zfr
  rw [if_pos h1,zyN h hw,D.bot,show (1#64:BitVec 64)=BitVec.ofNat 64 1 from rfl,zcP (by omega)]
  congr 1;omega
 ·have hn: ¬(o.PC=2∨o.PC=4∨o.PC=5∨(o.PC=3∧o.T=o.B-1#64)):=fun e=>h1 ⟨K.kind,K.out,e⟩
  by_cases h6:o.PC=6
  ·have hl:=K.e5 (by omega)
   have hc:=K.c1 (.inr (by omega))
   subst hl;subst hc
   refine zB9 h D ?_
   unfold zfr
   rw [if_neg h1,zyN h hw,D.bot];rfl
  ·have hc:c=0:=by
    by_cases h3:o.PC=3
    ·exact (K.n3 h3 (fun e=>hn (.inr (.inr (.inr ⟨h3,e⟩))))).1
    ·exact K.c0 (by omega)
   subst hc
   exact zog h hw D h1
end
end Go.Pe.G
namespace Go.Pe.G
open Go.Pe
noncomputable section
theorem zCV: ∀(t:Fin 512) (k:Fin 9),BitVec.ofNat 64 t.1|||bit ((k.1:Int)+1)=BitVec.ofNat 64 t.1∨cnt (BitVec.ofNat 64 t.1|||bit ((k.1:Int)+1))=cnt (BitVec.ofNat 64 t.1)+1:=by decide +kernel
theorem zCd {s:BitVec 64} (h: ∀o,zY s o=true→o≤9): ∃t:Fin 512,s=BitVec.ofNat 64 t.1:=by
 have h2:s=s&&&511#64:=by
  apply BitVec.eq_of_getLsbD_eq
  intro j hj
  rw [BitVec.getLsbD_and]
  have h63:(511#64).getLsbD j=decide (j<9):=by
   have: ∀j:Fin 64,(511#64).getLsbD j.1=decide (j.1<9):=by decide
   exact this ⟨j,hj⟩
  rw [h63]
  cases hs:s.getLsbD j with
  | false=>rfl
  | true =>
   have:=h ((j:Int)+1) ((xC _ _).2 ⟨by omega,by omega,by rw [show ((j:Int)+1-1).toNat=j by omega];exact hs⟩)
   rw [decide_eq_true (by omega:j<9)];rfl
 have h3:s.toNat<512:=by
  rw [h2,BitVec.toNat_and]
  exact Nat.lt_of_le_of_lt Nat.and_le_right (by decide)
 exact ⟨⟨s.toNat,h3⟩,by rw [BitVec.ofNat_toNat,BitVec.setWidth_eq]⟩
theorem zFr {s:BitVec 64} (h: ∀o,zY s o=true→o≤9) {o:Int} (ho:1≤o∧o≤9) (hn: ¬zY s o=true):cnt (s|||bit o)=cnt s+1:=by
 obtain ⟨t,rfl⟩:=zCd h
 have:=zCV t ⟨(o-1).toNat,by omega⟩
 rw [show (((o-1).toNat:Nat):Int)+1=o by omega] at this
 rcases this with e | e
 ·exact absurd e ((zbj ⟨ho.1,by omega⟩).2 hn)
 ·exact e
theorem zxi: ∀(l:List Int) (s:BitVec 64) (q:Int),(∀o∈l,1≤o∧o≤64)→(zY (l.foldl (fun s o=>s|||bit o) s) q=true↔zY s q=true∨q∈l)
 | [],s,q,_=>by simp
 | a::l,s,q,h=>by
  rw [List.foldl_cons,zxi l _ q (fun o ho=>h o (List.mem_cons_of_mem _ ho)),wa _ (h a (by simp)),List.mem_cons,or_assoc]
theorem zyS: ∀(l:List Int) (s:BitVec 64),(∀o∈l,1≤o∧o≤9)→(∀o,zY s o=true→o≤9)→l.Nodup→(∀o∈l,¬zY s o=true)→cnt (l.foldl (fun s o=>s|||bit o) s)=cnt s+(l.length:Int)
 | [],s,_,_,_,_=>by simp
 | a::l,s,h,hs,hd,hn=>by
  have ha:=h a (by simp)
  have hd:=List.nodup_cons.1 hd
  have ha64:1≤a∧a≤64:=by omega
  rw [List.foldl_cons,zyS l _ (fun o ho=>h o (List.mem_cons_of_mem _ ho)) (fun o ho=> ?_) hd.2 (fun o ho e=> ?_),zFr hs ha (hn a (by simp)),List.length_cons]
  ·omega
  ·rcases (wa _ ha64 o).1 ho with e | e
   ·exact hs o e
   ·omega
  ·rcases (wa _ ha64 o).1 e with e | e
   ·exact hn o (List.mem_cons_of_mem _ ho) e
   ·exact hd.1 (e▸ho)
theorem zDu:cnt 0#64=0:=by decide +kernel
theorem zEi {l:List Int} (h: ∀o∈l,1≤o∧o≤9) (hd:l.Nodup):cnt (Ut l)=(l.length:Int)∧∀q,zY (Ut l) q=true↔q∈l:=by
 refine ⟨?_,fun q=> ?_⟩
 ·unfold Ut
  rw [zyS l _ h (fun o e=>absurd e (WW o)) hd (fun o _=>WW o),zDu,Int.zero_add]
 ·unfold Ut
  rw [zxi l _ q (fun o ho=>by have:=h o ho;omega)]
  exact ⟨fun e=>e.resolve_left (WW q),.inr⟩
theorem zrK (s:BitVec 64) {q:Int} (h:1≤q∧q≤64):zY (~~~s) q=true↔¬zY s q=true:=by
 rw [xC,xC,BitVec.getLsbD_not]
 simp only [show (q-1).toNat<64 by omega,decide_true,Bool.true_and,Bool.not_eq_true']
 constructor
 ·rintro ⟨_,_,e⟩ ⟨_,_,e2⟩;rw [e] at e2;cases e2
 ·intro e
  refine ⟨h.1,h.2,?_⟩
  cases hs:s.getLsbD (q-1).toNat with
  | false=>rfl
  | true=>exact absurd ⟨h.1,h.2,hs⟩ e
end
end Go.Pe.G
namespace Go.Pe.G
open Go.Pe
noncomputable section
structure zDE (s:za):Prop where
 mks: ∀o,zY s.T.Marks o=true→o≤9
 ob: ∀(i:Nat) x,s.Ws[i]? =some x→x.PC=6→x.G.Obj≤9
theorem HOk.get9 {p:zb} (hp:zB p) {h:zt} (H:HOk p h) (o i:Int):xx h o i≤9:=by
 have h1:=H.n
 have h2:p.Most≤9:=by have:=hp.most;have:=hp.n;omega
 unfold xx
 split
 ·unfold zV
  rw [List.getD_eq_getElem?_getD,List.getD_eq_getElem?_getD]
  cases hx:h.Objs[(o-1).toNat]? with
  | none=>show (([]:List Int)[i.toNat]?).getD 0≤9;simp
  | some l =>
   show (l[i.toNat]?).getD 0≤9
   cases hv:l[i.toNat]? with
   | none=>show (0:Int)≤9;decide
   | some v =>
    have:=(H.objs l (List.mem_of_getElem? hx)).2 v (List.mem_of_getElem? hv)
    show v≤9;omega
 ·decide
theorem zDE.step {p:zb} (hp:zB p) {nb k:Nat} {s:za} {gh:Gh} (L:zDE s) (G:WG p nb k s gh) {w:Int} (hw:1≤w∧w≤p.Workers) (hd:s.Done=false) (T:zD4 s (yz s w) w):zDE (yz s w):=by
 have hwl:=G.E.wl
 refine ⟨fun o ho=> ?_,fun i y hy h6=> ?_⟩
 ·rcases T with e | ⟨x,q,hx,h6,rfl,hr,hn,e⟩ | ⟨x,hx,h8,h1,e⟩
  ·rw [e] at ho;exact L.mks o ho
  ·rw [e] at ho
   rcases (wa _ hr o).1 ho with e | e
   ·exact L.mks o e
   ·rw [e];exact L.ob _ x hx h6
  ·rw [e] at ho;exact L.mks o ho
 ·have e0: ¬(s.Done=true∨w<1∨(s.Ws.length:Int)<w):=by rw [hd];rintro (e | e | e)<;>first | cases e | omega
  have hi:(w-1).toNat<s.Ws.length:=by omega
  have hx:=List.getElem?_eq_getElem hi
  generalize s.Ws[(w-1).toNat]=x at hx
  unfold yz at hy
  rw [if_neg e0,hx] at hy
  have hy:(s.Ws.set (w-1).toNat (zp s w x).2)[i]? =some y:=hy
  by_cases hj:i=(w-1).toNat
  ·subst hj
   rw [List.getElem?_set_self hi] at hy
   injection hy with hy
   subst hy
   rcases zyc s w x h6 with ⟨a,b⟩ | ⟨a,b⟩
   ·rw [b];exact L.ob _ x hx a
   ·rw [b];exact G.E.H.get9 hp _ _
  ·rw [List.getElem?_set_ne (fun e=>hj e.symm)] at hy
   exact L.ob i y hy h6
theorem zwp {α β:Type} {f g:α→List β}: ∀(l:List α),List.Perm (l.flatMap (fun x=>f x++g x)) (l.flatMap f++l.flatMap g)
 | []=>List.Perm.refl _
 | a::l=>by
  rw [List.flatMap_cons,List.flatMap_cons,List.flatMap_cons]
  refine (List.Perm.append_left _ (zwp l)).trans ?_
  simp only [List.append_assoc]
  exact List.Perm.append_left _ (List.perm_append_comm_assoc _ _ _)
theorem zs8 {α β:Type} {f:α→List β} (l:List α):(List.range l.length).flatMap (fun i:Nat=>(l[i]?).elim [] f)=l.flatMap f:=by
 rw [List.flatMap_def,List.flatMap_def]
 congr 1
 apply List.ext_getElem
 ·simp
 ·intro i h1 h2
  have hi:i<l.length:=by simpa using h2
  simp [List.getElem?_eq_getElem hi]
end
end Go.Pe.G
namespace Go.Pe.G
open Go.Pe
noncomputable section
theorem zAL {m:List (BitVec 64)} {base cap:Int} {top:BitVec 64} (hc:cap<1000) (e:BitVec 64) (h:(e-top).toNat≤64) :
  zO z9 (m,e,top,zd.mk 0 0 base cap 0#64 0#64 0 0,([]:List Int),())=some (.brk (Yy m base cap top (e-top).toNat,())):=by
 have he:e=top+BitVec.ofNat 64 (e-top).toNat:=by
  rw [BitVec.ofNat_toNat,BitVec.setWidth_eq,BitVec.add_comm,BitVec.sub_add_cancel]
 generalize (e-top).toNat=n at he h
 subst he
 have:=zEP (f:=z9) (fun (i:Int) (_:Unit)=>(m,top+BitVec.ofNat 64 n,top+BitVec.ofNat 64 i.toNat,zd.mk 0 0 base cap 0#64 0#64 0 0,Yy m base cap top i.toNat,())) (fun _=>(Yy m base cap top n,())) n (by omega) (fun _ _=>()) (fun _=>True) (fun _ _ _=>trivial)
  (fun i _ hi _=>by
   have hne: ¬(top+BitVec.ofNat 64 i=top+BitVec.ofNat 64 n):=fun e=>by
    have e:=congrArg (fun x=>x-top) e
    rw [BitVec.add_comm top,BitVec.add_comm top,BitVec.add_sub_cancel,BitVec.add_sub_cancel] at e
    have:=zwl (by omega) (by omega) e
    omega
   have e2:top+BitVec.ofNat 64 i+1#64=top+BitVec.ofNat 64 (i+1):=by
    rw [BitVec.add_assoc,show (1#64:BitVec 64)=BitVec.ofNat 64 1 from rfl,zcP (by omega)]
   have e3:Yy m base cap top (i+1)=Yy m base cap top i++[(ld m (YL (zd.mk 0 0 base cap 0#64 0#64 0 0) (top+BitVec.ofNat 64 i))).toInt]:=by
    unfold Yy noD
    rw [List.range_succ,List.map_append];rfl
   have el:(Yy m base cap top i).length=i:=by unfold Yy;simp
   show z9 (m,top+BitVec.ofNat 64 n,top+BitVec.ofNat 64 i,zd.mk 0 0 base cap 0#64 0#64 0 0,Yy m base cap top i,())=some (.again (m,top+BitVec.ofNat 64 n,top+BitVec.ofNat 64 (i+1),zd.mk 0 0 base cap 0#64 0#64 0 0,Yy m base cap top (i+1),()))
   rw [zdH,yq,if_neg hne,zfW (show (zd.mk 0 0 base cap 0#64 0#64 0 0).Cap<1000 from hc),Option.bind_some,Yo,Option.bind_some,yp (by rw [List.length_append,el];simp;omega),Option.bind_some,e2,e3])
  (fun _ _=>by
   show z9 (m,top+BitVec.ofNat 64 n,top+BitVec.ofNat 64 n,zd.mk 0 0 base cap 0#64 0#64 0 0,Yy m base cap top n,())=_
   rw [zdH,yq,if_pos rfl]) (s:=()) trivial
 have e0:top+BitVec.ofNat 64 (0:Int).toNat=top:=by show top+0#64=top;rw [BitVec.add_zero]
 simp only [e0] at this
 exact this
theorem zEK (S d:BitVec 64):((bif decide (64#64<S) then 64#64 else S)<d)↔min S.toNat 64<d.toNat:=by
 rw [zj]
 by_cases h:64#64<S
 ·rw [if_pos h]
  have h':64<S.toNat:=h
  show 64<d.toNat↔_
  rw [Nat.min_eq_right (by omega)]
 ·rw [if_neg h]
  have h': ¬64<S.toNat:=h
  show S.toNat<d.toNat↔_
  rw [Nat.min_eq_left (by omega)]
theorem zzi {m:List (BitVec 64)} {base cap:Int} (hc:cap<1000) (o:zd):xT m base cap o=some (XO m base cap o,()):=by
 have hl:=fun e h=>zAL (m:=m) (base:=base) (cap:=cap) (top:=ld m base) hc e h
 have hlim:=fun d=>zEK (v8 (noD base cap)) d
 unfold noD at hlim
 have done: ∀e:BitVec 64,∀ {b:Option (List Int×Unit)},(¬0<(e-ld m base).toInt→b=some ([],()))→(0<(e-ld m base).toInt→(min (v8 (noD base cap)).toNat 64<(e-ld m base).toNat)→b=some ([],()))→(0<(e-ld m base).toInt→¬(min (v8 (noD base cap)).toNat 64<(e-ld m base).toNat)→b=some (Yy m base cap (ld m base) (e-ld m base).toNat,())) →
   b=some (if ¬0<(e-ld m base).toInt∨(min (v8 (noD base cap)).toNat 64)<(e-ld m base).toNat then [] else Yy m base cap (ld m base) (e-ld m base).toNat,()):=by
  intro e b h1 h2 h3
  by_cases a:0<(e-ld m base).toInt
  ·by_cases c:min (v8 (noD base cap)).toNat 64<(e-ld m base).toNat
   ·rw [if_pos (.inr c)];exact h2 a c
   ·rw [if_neg (by rintro (x | x);exact x a;exact c x)];exact h3 a c
  ·rw [if_pos (.inl a)];exact h1 a
 rw [zr5]
 simp only [uX,xj,xg,Option.bind_some,Yo,zct,zoe]
 unfold XO
 by_cases h:ziT o
 ·have he:zfr m base o=ld m (wc (base+1))+1#64:=by unfold zfr;rw [if_pos h]
  rw [he]
  obtain ⟨k,u,pc⟩:=h
  rcases pc with p | p | p | ⟨p,t⟩
  all_goals
   first | simp only [k,u,p,t,Int.reduceEq,decide_true,decide_false,cond_true,cond_false] | simp only [k,u,p,Int.reduceEq,decide_true,decide_false,cond_true,cond_false]
   generalize ld m (wc (base+1))+1#64=e
   refine done e (fun a=> ?_) (fun a c=> ?_) (fun a c=> ?_)
   ·simp only [decide_eq_false a,Bool.not_false,cond_true]
   ·simp only [decide_eq_true a,Bool.not_true,cond_false]
    rw [zj,if_pos ((hlim (e-ld m base)).2 c)]
   ·simp only [decide_eq_true a,Bool.not_true,cond_false]
    rw [zj,if_neg (fun x=>c ((hlim (e-ld m base)).1 x)),hl e (by omega)]
    rfl
 ·have he:zfr m base o=ld m (wc (base+1)):=by unfold zfr;rw [if_neg h]
  rw [he]
  have fin: ∀b:Option (List Int×Unit),(b=(bif !decide (0<(ld m (wc (base+1))-ld m base).toInt) then some ([],()) else bif decide ((bif decide (64#64<v8 (noD base cap)) then 64#64 else v8 (noD base cap))<(ld m (wc (base+1))-ld m base)) then some ([],()) else (zO z9 (m,ld m (wc (base+1)),ld m base,zd.mk 0 0 base cap 0#64 0#64 0 0,([]:List Int),())).bind (fun st=>match st with | .again _=>none | .brk y=>some (y.1,()) | .ret y=>none)))→b=some (if ¬0<(ld m (wc (base+1))-ld m base).toInt∨(min (v8 (noD base cap)).toNat 64)<(ld m (wc (base+1))-ld m base).toNat then [] else Yy m base cap (ld m base) (ld m (wc (base+1))-ld m base).toNat,()):=by
   intro b hb
   rw [hb]
   generalize ld m (wc (base+1))=e
   refine done e (fun a=> ?_) (fun a c=> ?_) (fun a c=> ?_)
   ·simp only [decide_eq_false a,Bool.not_false,cond_true]
   ·simp only [decide_eq_true a,Bool.not_true,cond_false]
    rw [zj]
    exact if_pos ((hlim (e-ld m base)).2 c)
   ·simp only [decide_eq_true a,Bool.not_true,cond_false]
    rw [zj]
    refine (if_neg (fun x=>c ((hlim (e-ld m base)).1 x))).trans ?_
    rw [hl e (by omega)]
    rfl
  refine fin _ ?_
  by_cases k:o.Kind=2
  ·by_cases u:o.Out=0
   ·have pc: ¬(o.PC=2∨o.PC=4∨o.PC=5∨(o.PC=3∧o.T=o.B-1#64)):=fun e=>h ⟨k,u,e⟩
    have p2: ¬o.PC=2:=fun e=>pc (.inl e)
    have p4: ¬o.PC=4:=fun e=>pc (.inr (.inl e))
    have p5: ¬o.PC=5:=fun e=>pc (.inr (.inr (.inl e)))
    by_cases p3:o.PC=3
    ·have t: ¬o.T=o.B-1#64:=fun e=>pc (.inr (.inr (.inr ⟨p3,e⟩)))
     simp only [decide_eq_true k,decide_eq_true u,decide_eq_false p2,decide_eq_false p4,decide_eq_false p5,decide_eq_true p3,decide_eq_false t,cond_true,cond_false]
     rfl
    ·simp only [decide_eq_true k,decide_eq_true u,decide_eq_false p2,decide_eq_false p4,decide_eq_false p5,decide_eq_false p3,cond_true,cond_false]
     rfl
   ·simp only [decide_eq_true k,decide_eq_false u,cond_true,cond_false]
    rfl
  ·simp only [decide_eq_false k,cond_true,cond_false]
   rfl
theorem zCG (m:List (BitVec 64)) (base cap:Int) (o:zd):(XO m base cap o).length≤64:=by
 unfold XO
 split
 ·simp
 ·rename_i h
  unfold Yy
  rw [List.length_map,List.length_range]
  omega
end
end Go.Pe.G
namespace Go.Pe.G
open Go.Pe
noncomputable section
def ub (x:zc):List Int:=if x.PC=33∨x.PC=34 then [x.Bin] else if x.PC=3∨x.PC=37 then x8 x.G else []
def zbC (s:za) (x:zc):List Int:=if x.PC=33 then yu s x.Bin else if x.PC=36∨x.PC=38 then [x.Obj] else if x.PC=37 then x.Obj::yi x.G else if x.PC=3 then yi x.G else []
def zW (s:za) (x:zc):List Int:=x.Batch++zbC s x
structure MX (p:zb) (s:za) (gh:Gh) (x:zc):Prop where
 bt:x.PC≤33→x.Batch=[]
 bf: ∀v∈x.Buf,1≤v∧v≤64
 ol:(x.PC=21→0≤x.Old∧x.Old≤64)∧(x.PC=22∨((x.PC=1∨x.PC=3)∧x.Ret=22)→1≤x.Old∧x.Old≤64)
 p3:x.PC=3→GX p s gh x.G∧x.G.Mode=2∧x.G.Out=0
 p32:x.PC=32→x.C.Out=0∧(0≤x.C.PC∧x.C.PC≤2)∧CK p s.M x.C
 p34:x.PC=34→x.C.Out=0∧(0≤x.C.PC∧x.C.PC≤2)∧x.C.X=x.Bin∧CK p s.M x.C
 p37:x.PC=37→GX p s gh x.G∧x.G.Mode=3∧x.G.Out=0
theorem MX.plain {p:zb} {s:za} {gh:Gh} {x:zc} (h:x.PC≠3∧x.PC≠32∧x.PC≠34∧x.PC≠37) (bt:x.PC≤33→x.Batch=[]) (bf: ∀v∈x.Buf,1≤v∧v≤64)
  (ol:(x.PC=21→0≤x.Old∧x.Old≤64)∧(x.PC=22∨((x.PC=1∨x.PC=3)∧x.Ret=22)→1≤x.Old∧x.Old≤64)):MX p s gh x :=
 ⟨bt,bf,ol,fun e=>by omega,fun e=>by omega,fun e=>by omega,fun e=>by omega⟩
theorem vy {x:zc} (h:x.PC≠3∧x.PC≠33∧x.PC≠34∧x.PC≠37):ub x=[]:=by unfold ub;rw [if_neg (by omega),if_neg (by omega)]
theorem zcq {x:zc} (h:x.PC=33∨x.PC=34):ub x=[x.Bin]:=by unfold ub;rw [if_pos h]
theorem zgt {x:zc} (h:x.PC=3∨x.PC=37):ub x=x8 x.G:=by unfold ub;rw [if_neg (by omega),if_pos h]
theorem uq {s:za} {x:zc} (h:x.PC≠3∧x.PC≠33∧x.PC≠36∧x.PC≠37∧x.PC≠38):zbC s x=[]:=by unfold zbC;rw [if_neg (by omega),if_neg (by omega),if_neg (by omega),if_neg (by omega)]
theorem zqz {s:za} {x:zc} (h:x.PC=33):zbC s x=yu s x.Bin:=by unfold zbC;rw [if_pos h]
theorem zbX {s:za} {x:zc} (h:x.PC=36∨x.PC=38):zbC s x=[x.Obj]:=by unfold zbC;rw [if_neg (by omega),if_pos h]
theorem zvI {s:za} {x:zc} (h:x.PC=37):zbC s x=x.Obj::yi x.G:=by unfold zbC;rw [if_neg (by omega),if_neg (by omega),if_pos h]
theorem zp7 {s:za} {x:zc} (h:x.PC=3):zbC s x=yi x.G:=by unfold zbC;rw [if_neg (by omega),if_neg (by omega),if_neg (by omega),if_pos h]
theorem MX.other {p:zb} (hp:zB p) {nb k:Nat} {s s':za} {gh gh':Gh} {X R:List Int} {O:Int→Prop} {m:Int} {x:zc} (Y:SX p nb s gh (X++R) k) (Fx:FX p nb X O s s' gh gh') (K:MX p s gh x) (W:XOk p nb m x)
  (hR: ∀b∈ub x,b∈R):MX p s' gh' x∧zW s' x=zW s x:=by
 have hsub: ∀b∈X,b∈X++R:=fun b hb=>List.mem_append_left _ hb
 have hnd:=(List.nodup_append.1 Y.L.nodup).2.1
 have hnot: ∀b,b∈ub x→b∉X:=fun b hb hg=>(List.nodup_append.1 hnd).2.2 b hg b (hR b hb) rfl
 refine ⟨⟨K.bt,K.bf,K.ol,fun e=> ?_,fun e=> ?_,fun e=> ?_,fun e=> ?_⟩,?_⟩
 ·obtain ⟨a,b,c⟩:=K.p3 e
  obtain ⟨M,_,_⟩:=W.g (.inl e)
  exact ⟨a.other hp Y Fx M (fun y hy=>hR y (by rw [zgt (.inl e)];exact hy)) (fun e2=>by omega),b,c⟩
 ·obtain ⟨a,b,c⟩:=K.p32 e
  have C:=W.c32 e
  exact ⟨a,b,c.mv Y.L Fx.mv hsub (.inl C.h) (fun h _=>C.v h) (fun e2=>by have:=C.k;omega)⟩
 ·obtain ⟨a,b,c,d⟩:=K.p34 e
  have C:=W.c34 e
  have hno:=hnot x.Bin (by rw [zcq (.inr e)];simp)
  exact ⟨a,b,c,d.mv Y.L Fx.mv hsub (.inr C.h) (fun _ e2=>by have:=C.k;omega) (fun _=>⟨C.x.1,C.x.2,by rw [c];exact hno⟩)⟩
 ·obtain ⟨a,b,c⟩:=K.p37 e
  obtain ⟨M,_,_⟩:=W.g (.inr e)
  exact ⟨a.other hp Y Fx M (fun y hy=>hR y (by rw [zgt (.inr e)];exact hy)) (fun e2=>by omega),b,c⟩
 ·unfold zW
  congr 1
  by_cases e3:x.PC=33
  ·rw [zqz e3,zqz e3]
   have hb:=W.b33 e3
   have hno:=hnot x.Bin (by rw [zcq (.inl e3)];simp)
   unfold yu
   rw [Fx.bn x.Bin hb.1 hno]
  ·unfold zbC
   rw [if_neg e3,if_neg e3]
def zfB (p:zb) (nb k:Nat) (R:List Int) (gh:Gh) (s:za) (x:zc) (s':za) (x':zc):Prop :=
 ∃gh',SX p nb s' gh' (ub x'++R) (k+1)∧MX p s' gh' x'∧FX p nb (ub x) (fun _=>False) s s' gh gh' ∧
  ∃N B,List.Perm (yn p s' gh'++zW s' x'++B) (N++(yn p s gh++zW s x)) ∧
   ((N=[]∧B=[]∧s'.T=s.T)∨(N=[x.G.Obj]∧B=[]∧(x.PC=3∨x.PC=37)∧¬(s.T.Marks|||bit x.G.Obj=s.T.Marks)∧s'.T={s.T with Marks:=s.T.Marks|||bit x.G.Obj})∨(N=[]∧B=[x.Obj]∧x.PC=38∧s'.T=wJ s.T x.Obj) ∨
    (N=[]∧B=[]∧x.PC=30∧Xm s.H s.P.Most=true∧s'.H=Z4 s.H∧s'.T=X7 s.T (wc (s.H.Objs.length+1))))
theorem zfB.quiet {p:zb} {nb k:Nat} {R:List Int} {gh:Gh} {s s':za} {x x':zc} (X:SX p nb s gh (ub x++R) k) (S':SOk p nb s') (hm:s'.M=s.M) (hb:s'.Bins=s.Bins) (hT:s'.T=s.T)
  (ho:ub x'=ub x) (hh:List.Perm (zW s' x') (zW s x)) (W':MX p s' gh x'):zfB p nb k R gh s x s' x' :=
 ⟨gh,by rw [ho];exact X.quiet S' hm,W',FX.quiet hm (fun _ _ _=>by rw [hb]),[],[],by rw [uR hb,List.append_nil];exact List.Perm.append_left _ hh,.inl ⟨rfl,rfl,hT⟩⟩
theorem zfB.calm {p:zb} {nb k:Nat} {R:List Int} {gh:Gh} {s s':za} {x x':zc} (X:SX p nb s gh (ub x++R) k) (S':SOk p nb s') (hm:s'.M=s.M) (hb:s'.Bins=s.Bins) (hT:s'.T=s.T)
  (h:x.PC≠3∧x.PC≠33∧x.PC≠34∧x.PC≠36∧x.PC≠37∧x.PC≠38) (h':x'.PC≠3∧x'.PC≠32∧x'.PC≠33∧x'.PC≠34∧x'.PC≠36∧x'.PC≠37∧x'.PC≠38) (eb:x'.Batch=x.Batch)
  (bt:x'.PC≤33→x'.Batch=[]) (bf: ∀v∈x'.Buf,1≤v∧v≤64) (ol:(x'.PC=21→0≤x'.Old∧x'.Old≤64)∧(x'.PC=22∨((x'.PC=1∨x'.PC=3)∧x'.Ret=22)→1≤x'.Old∧x'.Old≤64)):zfB p nb k R gh s x s' x':=by
 refine .quiet X S' hm hb hT ?_ ?_ (MX.plain (by omega) bt bf ol)
 ·rw [vy (by omega),vy (by omega)]
 ·unfold zW
  rw [uq (by omega),uq (by omega),eb]
theorem ztS {p:zb} {s:za} {gh:Gh} {md o w:Int} (hmd:md=2∨md=3) (ho:1≤o∧o≤64):GX p s gh (ZI md o w)∧(ZI md o w).Mode=md∧(ZI md o w).Out=0∧x8 (ZI md o w)=[]∧yi (ZI md o w)=[]:=by
 refine ⟨GX.plain (.inl rfl) ⟨by show (0:Int)≤0;decide,by show (0:Int)≤7;decide⟩ ⟨by show 1≤md;omega,by show md≤3;omega⟩ ho (fun e=>by have e:md=1:=e;omega) (.inr ⟨by show (0:Int)≠3;decide,by show (0:Int)≠5;decide,by show (0:Int)≠7;decide⟩),rfl,rfl,
  vc (.inr ⟨by show (0:Int)≠6;decide,by show (0:Int)≠7;decide⟩),Zv (.inr (.inl (by show (0:Int)<3;decide)))⟩
theorem zF4 {p:zb} (hp:zB p) {nb k:Nat} {R:List Int} {gh:Gh} {s:za} {m:Int} {x:zc} (hk:k<4294960000) (X:SX p nb s gh (ub x++R) k) (W:XOk p nb m x) (K:MX p s gh x) (hpl:((wN p m).length:Int)≤64)
  (hH: ∀o i,0≤xx s.H o i∧xx s.H o i≤64):zfB p nb k R gh s x (zA s m x).1 (zA s m x).2:=by
 have S':=(zCC hp hpl X.S W).1
 have hP:=X.S.P
 have eC:zbk s.P (zD s.P) x.Bin=zbk p (zD p) x.Bin:=by rw [hP]
 have hbf:=K.bf
 have hol:=K.ol
 revert S'
 refine un (motive:=fun r=>SOk p nb r.1→zfB p nb k R gh s x r.1 r.2) s m x ?_ ?_ ?_ ?_ ?_ ?_ ?_ ?_ ?_ ?_ ?_ ?_ ?_ ?_ ?_ ?_ ?_ ?_ ?_ ?_
 ·intro c;unfold mu0 zdv;dsimp only
  have hbt:=K.bt (by omega)
  repeat' split
  all_goals (intro S')
  all_goals (refine .calm X S' rfl rfl rfl (by omega) (by (try dsimp only [setM]);omega) rfl (fun _=>hbt) hbf ⟨fun e=> ?_,fun e=> ?_⟩<;>((try dsimp only [setM] at e);omega))
 ·intro c;unfold mu1;dsimp only
  have hbt:=K.bt (by omega)
  have hrt:=W.ret (.inl c)
  split
  ·intro S'
   exact .calm X S' rfl rfl rfl (by omega) (by dsimp only;omega) rfl (fun _=>hbt) hbf ⟨fun e=>by dsimp only at e;omega,fun e=>by dsimp only at e ⊢;exact hol.2 (by omega)⟩
  ·rename_i hl
   intro S'
   have hv:1≤x.Buf.getD (x.Buf.length-1) 0∧x.Buf.getD (x.Buf.length-1) 0≤64:=by
    rw [List.getD_eq_getElem?_getD,List.getElem?_eq_getElem (show x.Buf.length-1<x.Buf.length by omega)]
    exact hbf _ (List.getElem_mem _)
   obtain ⟨g1,g2,g3,g4,g5⟩:=ztS (p:=p) (s:=s) (gh:=gh) (w:=m) (.inl rfl) hv
   refine .quiet X S' rfl rfl rfl ?_ ?_ ⟨fun _=>hbt,fun v hv=>hbf v (List.mem_of_mem_take hv),⟨fun e=>(by cases e),fun e=> ?_⟩,fun _=>⟨g1,g2,g3⟩,fun e=>(by cases e),fun e=>(by cases e),fun e=>(by cases e)⟩
   ·rw [vy (x:=x) (by omega),zgt (.inl rfl)];exact g4
   ·unfold zW
    rw [uq (x:=x) (by omega),zp7 rfl]
    show List.Perm (x.Batch++yi (ZI 2 (x.Buf.getD (x.Buf.length-1) 0) m)) _
    rw [g5]
   ·rcases e with e | e
    ·cases e
    ·exact hol.2 (.inr ⟨.inl c,e.2⟩)
 ·intro c S';unfold mu2 at S' ⊢
  exact .calm X S' rfl rfl rfl (by omega) (by dsimp only;omega) rfl (fun _=>K.bt (by omega)) hbf ⟨fun e=>by dsimp only at e;omega,fun e=>by dsimp only at e;omega⟩
 ·intro c;unfold mu3;dsimp only
  have hbt:=K.bt (by omega)
  obtain ⟨G,gm,g0⟩:=K.p3 c
  obtain ⟨M,h5o,hn1⟩:=W.g (.inl c)
  have eo:ub x=x8 x.G:=zgt (.inl c)
  have hh:zW s x=yi x.G:=by unfold zW;rw [zp7 c,hbt,List.nil_append]
  rw [eo] at X
  obtain ⟨gh',X',G',Fx,hc',hFb,N,hN,hT⟩:=zAm hp hk X M h5o G
  have so:=Um s x.G
  have Fx':FX p nb (ub x) (fun _=>False) s (zx s x.G).1 gh gh':=by rw [eo];exact Fx.mono (fun v e=>by have:=e.1;omega)
  have hT':(N=[]∧([]:List Int)=[]∧(zx s x.G).1.T=s.T)∨(N=[x.G.Obj]∧([]:List Int)=[]∧(x.PC=3∨x.PC=37)∧¬(s.T.Marks|||bit x.G.Obj=s.T.Marks)∧(zx s x.G).1.T={s.T with Marks:=s.T.Marks|||bit x.G.Obj}):=by
   rcases hT with ⟨a,b⟩ | ⟨a,b,c'⟩
   ·exact .inl ⟨a,rfl,b⟩
   ·exact .inr ⟨a,rfl,.inl c,b,c'⟩
  split
  ·rename_i o1
   intro S'
   have n1:x8 (zx s x.G).2=[]:=vc (.inl (by omega))
   have n2:yi (zx s x.G).2=[]:=Zv (.inl (by omega))
   rw [n1] at X'
   refine ⟨gh',by rw [vy (by dsimp only;omega)];exact X',MX.plain (by dsimp only;omega) (fun _=>hbt) hbf ⟨fun e=>(by cases e),fun e=> ?_⟩,Fx',N,[],?_,hT'.elim .inl (fun h=> .inr (.inl h))⟩
   ·rcases e with e | e
    ·cases e
    ·exact hol.2 (.inr ⟨.inr c,e.2⟩)
   ·unfold zW
    rw [uq (by dsimp only;omega),List.append_nil,List.append_nil]
    rw [n2,List.append_nil] at hN
    show List.Perm (yn p (zx s x.G).1 gh'++x.Batch) (N++(yn p s gh++(x.Batch++zbC s x)))
    rw [hbt,zp7 c,List.append_nil,List.nil_append]
    exact hN
  ·rename_i o1
   intro S'
   have o0:(zx s x.G).2.Out=0:=by have:=G'.o;omega
   refine ⟨gh',by rw [zgt (x:={x with G:=(zx s x.G).2}) (.inl c)];exact X',⟨fun _=>hbt,hbf,hol,fun _=>⟨G',so.2.2.trans gm,o0⟩,fun e=>by have e:x.PC=32:=e;omega,fun e=>by have e:x.PC=34:=e;omega,fun e=>by have e:x.PC=37:=e;omega⟩,Fx',N,[],?_,hT'.elim .inl (fun h=> .inr (.inl h))⟩
   unfold zW
   rw [zp7 (x:={x with G:=(zx s x.G).2}) c,List.append_nil]
   show List.Perm (yn p (zx s x.G).1 gh'++(x.Batch++yi (zx s x.G).2)) (N++(yn p s gh++(x.Batch++zbC s x)))
   rw [hbt,zp7 c,List.nil_append,List.nil_append]
   exact hN
 ·intro c S';unfold znO at S' ⊢
  exact .calm X S' rfl rfl rfl (by omega) (by dsimp only [setM];omega) rfl (fun _=>K.bt (by omega)) hbf ⟨fun e=>by dsimp only [setM] at e;omega,fun e=>by dsimp only [setM] at e;omega⟩
 ·intro c;unfold zl4;dsimp only
  have hbt:=K.bt (by omega)
  split
  ·intro S'
   exact .calm X S' rfl rfl rfl (by omega) (by dsimp only [VA];omega) rfl (fun _=>hbt) hbf ⟨fun e=>by dsimp only [VA] at e;omega,fun e=>by dsimp only [VA] at e;omega⟩
  ·intro S'
   exact .calm X S' rfl rfl rfl (by omega) (by dsimp only;omega) rfl (fun _=>hbt) hbf ⟨fun _=>hH _ _,fun e=>by dsimp only at e;omega⟩
 ·intro c;unfold zl7;dsimp only
  have hbt:=K.bt (by omega)
  have h21:=hol.1 c
  split
  ·intro S'
   exact .calm X S' rfl rfl rfl (by omega) (by dsimp only;omega) rfl (fun _=>hbt) hbf ⟨fun e=>by dsimp only at e;omega,fun e=>by dsimp only at e;omega⟩
  ·rename_i hn
   intro S'
   have: ¬x.Old=0:=fun e=>hn (.inl e)
   exact .calm X S' rfl rfl rfl (by omega) (by dsimp only;omega) rfl (fun _=>hbt) hbf ⟨fun e=>by dsimp only at e;omega,fun e=>by dsimp only;omega⟩
 ·intro c;unfold zlX;dsimp only
  have hbt:=K.bt (by omega)
  have h22:=hol.2 (.inl c)
  split
  ·intro S'
   exact .calm X S' rfl rfl rfl (by omega) (by dsimp only;omega) rfl (fun _=>hbt) hbf ⟨fun e=>by dsimp only at e;omega,fun e=>h22⟩
  ·intro S'
   refine .calm X S' rfl rfl rfl (by omega) (by dsimp only;omega) rfl (fun _=>hbt) (fun v hv=> ?_) ⟨fun e=>by dsimp only at e;omega,fun e=>by dsimp only at e;omega⟩
   rcases List.mem_append.1 hv with h | h
   ·exact hbf v h
   ·rw [List.mem_singleton.1 h];exact h22
 ·intro c S';unfold znq at S' ⊢
  exact .calm X S' rfl rfl rfl (by omega) (by dsimp only [VA];omega) rfl (fun _=>K.bt (by omega)) hbf ⟨fun e=>by dsimp only [VA] at e;omega,fun e=>by dsimp only [VA] at e;omega⟩
 ·intro c;unfold zhc
  have hbt:=K.bt (by omega)
  split
  ·split
   ·rename_i h1 h2
    intro S'
    refine ⟨gh,by rw [vy (by dsimp only [setM];omega)];rw [vy (x:=x) (by omega)] at X;exact X.quiet S' rfl,MX.plain (by dsimp only [setM];omega) (fun _=>hbt) hbf ⟨fun e=>by dsimp only [setM] at e;omega,fun e=>by dsimp only [setM] at e;omega⟩,FX.quiet rfl (fun _ _ _=>rfl),[],[],?_,.inr (.inr (.inr ⟨rfl,rfl,c,h2,rfl,rfl⟩))⟩
    rw [uR rfl,List.append_nil,List.nil_append]
    unfold zW
    rw [uq (by dsimp only [setM];omega),uq (x:=x) (by omega)]
    exact List.Perm.refl _
   ·intro S'
    exact .calm X S' rfl rfl rfl (by omega) (by dsimp only [VA];omega) rfl (fun _=>hbt) hbf ⟨fun e=>by dsimp only [VA] at e;omega,fun e=>by dsimp only [VA] at e;omega⟩
  ·intro S'
   exact .calm X S' rfl rfl rfl (by omega) (by dsimp only;omega) rfl (fun _=>hbt) hbf ⟨fun e=>by dsimp only at e;omega,fun e=>by dsimp only at e;omega⟩
 ·intro c;unfold zmc;dsimp only
  have hbt:=K.bt (by omega)
  split
  ·intro S'
   refine .quiet X S' rfl rfl rfl (by rw [vy (by dsimp only;omega),vy (x:=x) (by omega)]) ?_ ⟨fun _=>hbt,hbf,⟨fun e=>by dsimp only at e;omega,fun e=>by dsimp only at e;omega⟩,fun e=>by dsimp only at e;omega,fun _=>⟨rfl,⟨by show (0:Int)≤0;decide,by show (0:Int)≤2;decide⟩,by show CK p s.M (zBd s.P (zZ s.P) x.Bin);rw [hP];exact CK.start⟩,fun e=>by dsimp only at e;omega,fun e=>by dsimp only at e;omega⟩
   unfold zW
   rw [uq (by dsimp only;omega),uq (x:=x) (by omega)]
  ·intro S'
   exact .calm X S' rfl rfl rfl (by omega) (by dsimp only;omega) rfl (fun _=>hbt) hbf ⟨fun e=>by dsimp only at e;omega,fun e=>by dsimp only at e;omega⟩
 ·intro c;unfold zlM;dsimp only
  have C:=W.c32 c
  obtain ⟨c1,c2,c3⟩:=K.p32 c
  have hbt:=K.bt (by omega)
  have eo:ub x=[]:=vy (by omega)
  have hh:zW s x=[]:=by unfold zW;rw [hbt,uq (by omega)];rfl
  have nn: ∀e:x.PC=21,False:=fun e=>by omega
  intro S'
  have S':SOk p nb {s with M:=(zn s.M x.C).1}:=S'
  rcases SX.popF hp X hk C.k C.h C.n c1 c2 c3 C.v S' with ⟨a,b,cc,d⟩ | ⟨y,l,a,b,cc,d,e⟩
  ·rw [if_neg b]
   have hout:=za2 s.M c1 c2 (.inr C.k)
   by_cases o2:(zn s.M x.C).2.Out=2
   ·rw [if_pos o2]
    exact .calm X S' a rfl rfl (by omega) (by dsimp only;omega) rfl (fun _=>hbt) hbf ⟨fun e=>by dsimp only at e;omega,fun e=>by dsimp only at e;omega⟩
   ·rw [if_neg o2]
    have hpc':(zn s.M x.C).2.Out=0∧0≤(zn s.M x.C).2.PC∧(zn s.M x.C).2.PC≤2:=by omega
    refine .quiet X S' a rfl rfl ?_ ?_ ⟨fun _=>hbt,hbf,hol,fun e=>by have e:x.PC=3:=e;omega,fun _=>⟨hpc'.1,hpc'.2,?_⟩,fun e=>by have e:x.PC=34:=e;omega,fun e=>by have e:x.PC=37:=e;omega⟩
    ·rw [eo];exact vy (by dsimp only;omega)
    ·unfold zW
     rw [uq (by dsimp only;omega),uq (x:=x) (by omega)]
    ·rw [show ({s with M:=(zn s.M x.C).1}:za).M=s.M from a];exact cc
  ·rw [if_pos b]
   have e1:ub {x with PC:=33,Bin:=(zn s.M x.C).2.X,C:=(zn s.M x.C).2}=[y]:=by rw [←cc];exact zcq (x:={x with PC:=33,Bin:=(zn s.M x.C).2.X,C:=(zn s.M x.C).2}) (.inl rfl)
   refine ⟨{gh with F:=l},by rw [e1];rw [eo] at d;exact d,MX.plain (by dsimp only;omega) (fun _=>hbt) hbf ⟨fun e=>by dsimp only at e;omega,fun e=>by dsimp only at e;omega⟩,e _ _,[],[],?_,.inl ⟨rfl,rfl,rfl⟩⟩
   rw [hh,List.append_nil,List.append_nil,List.nil_append]
   unfold zW
   rw [zqz (x:={x with PC:=33,Bin:=(zn s.M x.C).2.X,C:=(zn s.M x.C).2}) rfl]
   show List.Perm (yn p s {gh with F:=l}++(x.Batch++yu s (zn s.M x.C).2.X)) _
   rw [hbt,List.nil_append,cc]
   have:yn p s gh=yu s y++yn p s {gh with F:=l}:=by unfold yn;rw [a];simp [List.append_assoc]
   rw [this]
   exact List.perm_append_comm
 ·intro c;unfold znH;dsimp only
  intro S'
  have hb:=W.b33 c
  have hbt:=K.bt (by omega)
  have eo:ub x=[x.Bin]:=zcq (.inl c)
  rw [eC] at *
  have e1:ub {x with Batch:=WU s x.Bin,PC:=34,C:=zbk p (zD p) x.Bin}=[x.Bin]:=zcq (x:={x with Batch:=WU s x.Bin,PC:=34,C:=zbk p (zD p) x.Bin}) (.inr rfl)
  have hget: ∀b,1≤b→b∉ub x→(s.Bins.set x.Bin.toNat [])[b.toNat]? =s.Bins[b.toNat]? :=fun b b1 b2=>by
   rw [List.getElem?_set_ne]
   intro e
   rw [eo] at b2
   exact b2 (by rw [show b=x.Bin by omega];simp)
  refine ⟨gh,by rw [e1,←eo];exact X.quiet S' rfl,⟨fun e=>absurd e (by show ¬(34:Int)≤33;decide),hbf,⟨fun e=>by dsimp only at e;omega,fun e=>by dsimp only at e;omega⟩,fun e=>by dsimp only at e;omega,fun e=>by dsimp only at e;omega,fun _=>⟨rfl,⟨by show (0:Int)≤0;decide,by show (0:Int)≤2;decide⟩,rfl,CK.start⟩,fun e=>by dsimp only at e;omega⟩,FX.quiet rfl hget,[],[],?_,.inl ⟨rfl,rfl,rfl⟩⟩
  have hbag:yn p {s with Bins:=s.Bins.set x.Bin.toNat []} gh=yn p s gh:=by
   unfold yn
   congr 1
   refine xB (fun b hb=> ?_)
   have hm:=X.L.cF.mem b hb
   have hno:=(X.L.notF (x:=x.Bin) (by rw [eo];simp)).1
   unfold yu
   rw [show ({s with Bins:=s.Bins.set x.Bin.toNat []}:za).Bins=s.Bins.set x.Bin.toNat [] from rfl,hget b hm.1 (by rw [eo];intro e;rw [List.mem_singleton.1 e] at hb;exact hno hb)]
  rw [hbag,List.append_nil,List.nil_append]
  unfold zW
  rw [zqz c,uq (x:={x with Batch:=WU s x.Bin,PC:=34,C:=zbk p (zD p) x.Bin}) (by dsimp only;omega)]
  show List.Perm (yn p s gh++(WU s x.Bin++[])) _
  rw [hbt,List.append_nil,List.nil_append,zxz]
 ·intro c;unfold zmb;dsimp only
  intro S'
  have S':SOk p nb {s with M:=(zn s.M x.C).1}:=S'
  have C:=W.c34 c
  obtain ⟨c1,c2,c3,c4⟩:=K.p34 c
  have eo:ub x=[x.Bin]:=zcq (.inr c)
  have hh:zW s x=x.Batch:=by unfold zW;rw [uq (by omega),List.append_nil]
  rw [eo] at X
  rcases SX.pushE hp (o1:=[]) (o2:=R) (b:=x.Bin) X hk C.k C.h C.n c3 c1 c2 c4 C.v S' with ⟨a,b,cc,d⟩ | ⟨a,b,d⟩
  ·rw [a,if_neg (by decide)]
   have hout:=za2 s.M c1 c2 (.inl C.k)
   have hsame:=zmf s.M x.C
   have hpc':0≤(zn s.M x.C).2.PC∧(zn s.M x.C).2.PC≤2:=by omega
   have e1:ub {x with C:=(zn s.M x.C).2}=[x.Bin]:=zcq (x:={x with C:=(zn s.M x.C).2}) (.inr c)
   refine ⟨gh,by rw [e1];exact b,⟨fun e=>by have e:x.PC≤33:=e;omega,hbf,hol,fun e=>by have e:x.PC=3:=e;omega,fun e=>by have e:x.PC=32:=e;omega,fun _=>⟨a,hpc',(hsame.2.2.2 C.k).trans c3,cc⟩,fun e=>by have e:x.PC=37:=e;omega⟩,by rw [eo];exact d _ _ (by simp),[],[],?_,.inl ⟨rfl,rfl,rfl⟩⟩
   rw [uR rfl,hh,List.append_nil]
   unfold zW
   rw [uq (x:={x with C:=(zn s.M x.C).2}) (by dsimp only;omega),List.append_nil]
   exact List.Perm.refl _
  ·rw [a,if_pos rfl]
   refine ⟨{gh with E:=x.Bin::gh.E},by rw [vy (by dsimp only;omega)];exact b,MX.plain (by dsimp only;omega) (fun e=>absurd e (by show ¬(35:Int)≤33;decide)) hbf ⟨fun e=>by dsimp only at e;omega,fun e=>by dsimp only at e;omega⟩,by rw [eo];exact d _ _,[],[],?_,.inl ⟨rfl,rfl,rfl⟩⟩
   rw [hh,List.append_nil]
   unfold zW
   rw [uq (by dsimp only;omega),List.append_nil]
   exact List.Perm.refl _
 ·intro c;unfold zlJ;dsimp only
  split
  ·rename_i hb
   intro S'
   exact .calm X S' rfl rfl rfl (by omega) (by dsimp only;omega) rfl (fun _=>hb) hbf ⟨fun e=>by dsimp only at e;omega,fun e=>by dsimp only at e;omega⟩
  ·rename_i o l hb
   intro S'
   refine .quiet X S' rfl rfl rfl (by rw [vy (by dsimp only;omega),vy (x:=x) (by omega)]) ?_ (MX.plain (by dsimp only;omega) (fun e=>absurd e (by show ¬(36:Int)≤33;decide)) hbf ⟨fun e=>by dsimp only at e;omega,fun e=>by dsimp only at e;omega⟩)
   unfold zW
   rw [zbX (.inl rfl),uq (x:=x) (by omega),hb,List.append_nil]
   exact List.perm_append_comm
 ·intro c;unfold zl8;dsimp only
  have hv:=hH x.Obj x.Slot
  have eo:ub x=[]:=vy (by omega)
  split
  ·rcases zgu s (wc (x.Slot+1)) with e | e<;>rw [e]<;>intro S'
   ·refine .quiet X S' rfl rfl rfl (by rw [eo,vy (by dsimp only;omega)]) ?_ (MX.plain (by dsimp only;omega) (fun e=>absurd e (by show ¬(36:Int)≤33;decide)) hbf ⟨fun e=>by dsimp only at e;omega,fun e=>by dsimp only at e;omega⟩)
    unfold zW
    rw [zbX (.inl c),zbX (.inl rfl)]
   ·refine .quiet X S' rfl rfl rfl (by rw [eo,vy (by dsimp only;omega)]) ?_ (MX.plain (by dsimp only;omega) (fun e=>absurd e (by show ¬(38:Int)≤33;decide)) hbf ⟨fun e=>by dsimp only at e;omega,fun e=>by dsimp only at e;omega⟩)
    unfold zW
    rw [zbX (.inl c),zbX (.inr rfl)]
  ·rename_i hne
   intro S'
   obtain ⟨g1,g2,g3,g4,g5⟩:=ztS (p:=p) (s:=s) (gh:=gh) (w:=m) (.inr rfl) (show 1≤xx s.H x.Obj x.Slot∧xx s.H x.Obj x.Slot≤64 by omega)
   refine .quiet X S' rfl rfl rfl ?_ ?_ ⟨fun e=>absurd e (by show ¬(37:Int)≤33;decide),hbf,⟨fun e=>by dsimp only at e;omega,fun e=>by dsimp only at e;omega⟩,fun e=>by dsimp only at e;omega,fun e=>by dsimp only at e;omega,fun e=>by dsimp only at e;omega,fun _=>⟨g1,g2,g3⟩⟩
   ·rw [eo,zgt (.inr rfl)];exact g4
   ·unfold zW
    rw [zbX (.inl c),zvI rfl]
    show List.Perm (x.Batch++x.Obj::yi (ZI 3 (xx s.H x.Obj x.Slot) m)) _
    rw [g5]
 ·intro c;unfold zi0;dsimp only
  obtain ⟨G,gm,g0⟩:=K.p37 c
  obtain ⟨M,h5o,hn1⟩:=W.g (.inr c)
  have eo:ub x=x8 x.G:=zgt (.inr c)
  have hh:zW s x=x.Batch++x.Obj::yi x.G:=by unfold zW;rw [zvI c]
  rw [eo] at X
  obtain ⟨gh',X',G',Fx,hc',hFb,N,hN,hT⟩:=zAm hp hk X M h5o G
  have so:=Um s x.G
  have Fx':FX p nb (ub x) (fun _=>False) s (zx s x.G).1 gh gh':=by rw [eo];exact Fx.mono (fun v e=>by have:=e.1;omega)
  have hT':(N=[]∧([]:List Int)=[]∧(zx s x.G).1.T=s.T)∨(N=[x.G.Obj]∧([]:List Int)=[]∧(x.PC=3∨x.PC=37)∧¬(s.T.Marks|||bit x.G.Obj=s.T.Marks)∧(zx s x.G).1.T={s.T with Marks:=s.T.Marks|||bit x.G.Obj}):=by
   rcases hT with ⟨a,b⟩ | ⟨a,b,c'⟩
   ·exact .inl ⟨a,rfl,b⟩
   ·exact .inr ⟨a,rfl,.inr c,b,c'⟩
  have perm: ∀H':List Int,H'=x.Batch++x.Obj::yi (zx s x.G).2→List.Perm (yn p (zx s x.G).1 gh'++H'++[]) (N++(yn p s gh++zW s x)):=by
   intro H' e
   rw [e,hh,List.append_nil]
   have a1:List.Perm (yn p (zx s x.G).1 gh'++(x.Batch++x.Obj::yi (zx s x.G).2)) ((x.Batch++[x.Obj])++(yn p (zx s x.G).1 gh'++yi (zx s x.G).2)):=by
    rw [show x.Batch++x.Obj::yi (zx s x.G).2=(x.Batch++[x.Obj])++yi (zx s x.G).2 by simp]
    exact List.perm_append_comm_assoc _ _ _
   have a2:List.Perm (N++(yn p s gh++(x.Batch++x.Obj::yi x.G))) ((x.Batch++[x.Obj])++(N++(yn p s gh++yi x.G))):=by
    rw [show x.Batch++x.Obj::yi x.G=(x.Batch++[x.Obj])++yi x.G by simp]
    exact (List.Perm.append_left N (List.perm_append_comm_assoc _ _ _)).trans (List.perm_append_comm_assoc _ _ _)
   exact a1.trans ((List.Perm.append_left _ hN).trans a2.symm)
  split
  ·rename_i o1
   intro S'
   have n1:x8 (zx s x.G).2=[]:=vc (.inl (by omega))
   have n2:yi (zx s x.G).2=[]:=Zv (.inl (by omega))
   rw [n1] at X'
   rcases zgu s x.Slot with e | e<;>rw [e]
   ·refine ⟨gh',by rw [vy (by dsimp only;omega)];exact X',MX.plain (by dsimp only;omega) (fun e=>absurd e (by show ¬(36:Int)≤33;decide)) hbf ⟨fun e=>by dsimp only at e;omega,fun e=>by dsimp only at e;omega⟩,Fx',N,[],perm _ ?_,hT'.elim .inl (fun h=> .inr (.inl h))⟩
    unfold zW;rw [zbX (.inl rfl),n2]
   ·refine ⟨gh',by rw [vy (by dsimp only;omega)];exact X',MX.plain (by dsimp only;omega) (fun e=>absurd e (by show ¬(38:Int)≤33;decide)) hbf ⟨fun e=>by dsimp only at e;omega,fun e=>by dsimp only at e;omega⟩,Fx',N,[],perm _ ?_,hT'.elim .inl (fun h=> .inr (.inl h))⟩
    unfold zW;rw [zbX (.inr rfl),n2]
  ·rename_i o1
   intro S'
   have o0:(zx s x.G).2.Out=0:=by have:=G'.o;omega
   refine ⟨gh',by rw [zgt (x:={x with G:=(zx s x.G).2}) (.inr c)];exact X',⟨fun e=>by have e:x.PC≤33:=e;omega,hbf,hol,fun e=>by have e:x.PC=3:=e;omega,fun e=>by have e:x.PC=32:=e;omega,fun e=>by have e:x.PC=34:=e;omega,fun _=>⟨G',so.2.2.trans gm,o0⟩⟩,Fx',N,[],perm _ ?_,hT'.elim .inl (fun h=> .inr (.inl h))⟩
   unfold zW;rw [zvI (x:={x with G:=(zx s x.G).2}) c]
 ·intro c S';unfold znV at S' ⊢
  have eo:ub x=[]:=vy (by omega)
  refine ⟨gh,by rw [vy (by dsimp only;omega)];rw [eo] at X;exact X.quiet S' rfl,MX.plain (by dsimp only;omega) (fun e=>absurd e (by show ¬(39:Int)≤33;decide)) hbf ⟨fun e=>by dsimp only at e;omega,fun e=>by dsimp only at e;omega⟩,FX.quiet rfl (fun _ _ _=>rfl),[],[x.Obj],?_,.inr (.inr (.inl ⟨rfl,rfl,c,rfl⟩))⟩
  rw [uR rfl,List.nil_append]
  unfold zW
  rw [zbX (.inr c),uq (by dsimp only;omega),List.append_nil,List.append_assoc]
  exact List.Perm.refl _
 ·intro c S';unfold zpQ at S' ⊢
  exact .calm X S' rfl rfl rfl (by omega) (by dsimp only;omega) rfl (fun e=>absurd e (by show ¬(35:Int)≤33;decide)) hbf ⟨fun e=>by dsimp only at e;omega,fun e=>by dsimp only at e;omega⟩
 ·intro S'
  exact ⟨gh,X.quiet S' rfl,K,FX.quiet rfl (fun _ _ _=>rfl),[],[],by rw [List.append_nil];exact List.Perm.refl _,.inl ⟨rfl,rfl,rfl⟩⟩
end
end Go.Pe.G
namespace Go.Pe.G
open Go.Pe
noncomputable section
theorem Vh (a b:BitVec 64) (q:Int):zY (a|||b) q=true↔zY a q=true∨zY b q=true:=by
 rw [xC,xC,xC,BitVec.getLsbD_or,Bool.or_eq_true]
 constructor
 ·rintro ⟨h1,h2,h | h⟩
  ·exact .inl ⟨h1,h2,h⟩
  ·exact .inr ⟨h1,h2,h⟩
 ·rintro (⟨h1,h2,h⟩ | ⟨h1,h2,h⟩)
  ·exact ⟨h1,h2,.inl h⟩
  ·exact ⟨h1,h2,.inr h⟩
theorem zeQ (h:zt) (a i v:Int):(zfi h a i v).Objs.length=h.Objs.length:=by
 unfold zfi;split<;>simp
theorem zp1 (h:zt):(Z4 h).Objs.length=h.Objs.length+1:=by unfold Z4;simp
end
end Go.Pe.G
namespace Go.Pe.G
open Go.Pe
noncomputable section
theorem zub: ∀(n:Fin 10) (j:Fin 64),(wY (n.1:Int)).getLsbD j.1=decide (j.1<n.1):=by decide +kernel
theorem zol {n:Nat} (hn:n≤9) (o:Int):zY (wY (n:Int)) o=true↔1≤o∧o≤(n:Int):=by
 rw [xC]
 constructor
 ·rintro ⟨a,b,c⟩
  have:=zub ⟨n,by omega⟩ ⟨(o-1).toNat,by omega⟩
  rw [this] at c
  have:(o-1).toNat<n:=by simpa using c
  omega
 ·rintro ⟨a,b⟩
  have:=zub ⟨n,by omega⟩ ⟨(o-1).toNat,by omega⟩
  refine ⟨a,by omega,?_⟩
  rw [this]
  exact decide_eq_true (by show (o-1).toNat<n;omega)
end
end Go.Pe.G
namespace Go.Pe.G
open Go.Pe
noncomputable section
theorem zvM {t:zo} {o:Int} (ho:1≤o∧o≤64) (hm: ¬zY t.Marks o=true) (hb: ¬zY t.Black o=true):vu t o=({t with Marks:=t.Marks|||bit o},true):=by
 unfold vu
 rw [if_neg ((zbj ho).2 hm),if_pos]
 unfold zY at hb
 simpa using hb
theorem zxj {o q:Int} (h:zY (bit o) q=true):q=o:=by
 by_cases ho:1≤o∧o≤64
 ·have:=(wa 0#64 ho q).1 (by simpa using h)
  exact this.resolve_left (WW q)
 ·unfold bit at h;rw [if_neg ho] at h;exact absurd h (WW q)
theorem zjT {m:BitVec 64} {o q:Int} (h:zY (m|||bit o) q=true):zY m q=true∨q=o:=((Vh _ _ _).1 h).imp id zxj
theorem zw8 (t:zo) (o:Int):wT t o=2↔zY t.Marks o=true∧zY t.Black o=true:=by
 unfold wT
 cases h:zY (t.Marks&&&t.Black) o with
 | true=>simp only [if_true,true_iff];exact (zcx _ _ o).1 h
 | false =>
  have hn: ¬(zY t.Marks o=true∧zY t.Black o=true):=fun e=>by rw [(zcx _ _ o).2 e] at h;cases h
  simp only [Bool.false_eq_true,if_false]
  constructor
  ·intro e;split at e<;>omega
  ·intro e;exact absurd e hn
theorem zgf (t:zo) (o:Int):(vu t o).1.Black=t.Black∧((vu t o).1.Marks=t.Marks∨(vu t o).1.Marks=t.Marks|||bit o):=by
 unfold vu
 split
 ·exact ⟨rfl,.inl rfl⟩
 split
 ·exact ⟨rfl,.inr rfl⟩
 ·exact ⟨rfl,.inl rfl⟩
theorem zmJ (t:zo) (o:Int):(wJ t o).Marks=t.Marks∧((wJ t o).Black=t.Black∨((wJ t o).Black=t.Black|||bit o∧zY t.Marks o=true)):=by
 unfold wJ
 split
 ·rename_i h;exact ⟨rfl,.inr ⟨rfl,((WZ t o).1 h).1⟩⟩
 ·exact ⟨rfl,.inl rfl⟩
theorem zCF (s:za) (g:zu):(zx s g).1.T=s.T∨(zx s g).1.T=(vu s.T g.Obj).1:=by
 unfold zx
 split
 ·exact .inl rfl
 split
 ·exact .inl rfl
 split
 ·exact .inl rfl
 split
 ·exact .inl rfl
 split
 ·exact .inl rfl
 split
 ·exact .inl rfl
 split
 ·exact .inl rfl
 split
 ·exact .inr rfl
 ·exact .inl rfl
theorem zr3 (s:za) (m:Int) (x:zc) :
  ((zA s m x).1.H.Objs.length=s.H.Objs.length∧((zA s m x).1.T=s.T∨((zA s m x).1.T=(vu s.T x.G.Obj).1∧(x.PC=3∨x.PC=37))∨(zA s m x).1.T=wJ s.T x.Obj) ∧
   ((zA s m x).1.L=s.L∨(∃w,(zA s m x).1.L=(zcn s.L m w).1)∨(zA s m x).1.L=zcj s.L m)) ∨
  ((zA s m x).1.H=Z4 s.H∧(zA s m x).1.T=X7 s.T (wc (s.H.Objs.length+1))∧(zA s m x).1.L=zbR s.L m s.P.Price∧zfu s.L m s.P.Price s.P.Limit=true∧Xm s.H s.P.Most=true):=by
 refine un (motive:=fun r=>(r.1.H.Objs.length=s.H.Objs.length∧(r.1.T=s.T∨(r.1.T=(vu s.T x.G.Obj).1∧(x.PC=3∨x.PC=37))∨r.1.T=wJ s.T x.Obj)∧(r.1.L=s.L∨(∃w,r.1.L=(zcn s.L m w).1)∨r.1.L=zcj s.L m)) ∨
  (r.1.H=Z4 s.H∧r.1.T=X7 s.T (wc (s.H.Objs.length+1))∧r.1.L=zbR s.L m s.P.Price∧zfu s.L m s.P.Price s.P.Limit=true∧Xm s.H s.P.Most=true)) s m x ?_ ?_ ?_ ?_ ?_ ?_ ?_ ?_ ?_ ?_ ?_ ?_ ?_ ?_ ?_ ?_ ?_ ?_ ?_ ?_
 ·intro c;exact .inl ⟨rfl,.inl rfl,.inl rfl⟩
 ·intro c;exact .inl ⟨rfl,.inl rfl,.inl rfl⟩
 ·intro c;exact .inl ⟨rfl,.inl rfl,.inl rfl⟩
 ·intro c;unfold mu3
  refine .inl ⟨by rw [zbd],(zCF s x.G).imp id (fun h=> .inl ⟨h,.inl c⟩),.inl (by rw [zbd])⟩
 ·intro c;exact .inl ⟨rfl,.inl rfl,.inl rfl⟩
 ·intro c;exact .inl ⟨rfl,.inl rfl,.inl rfl⟩
 ·intro c;exact .inl ⟨rfl,.inl rfl,.inl rfl⟩
 ·intro c;exact .inl ⟨rfl,.inl rfl,.inl rfl⟩
 ·intro c;exact .inl ⟨zeQ _ _ _ _,.inl rfl,.inl rfl⟩
 ·intro c;unfold zhc
  split
  ·split
   ·rename_i h1 h2;exact .inr ⟨rfl,rfl,rfl,h1,h2⟩
   ·exact .inl ⟨rfl,.inl rfl,.inl rfl⟩
  ·exact .inl ⟨rfl,.inl rfl,.inl rfl⟩
 ·intro c;exact .inl ⟨rfl,.inl rfl,.inr (.inl ⟨_,rfl⟩)⟩
 ·intro c;exact .inl ⟨rfl,.inl rfl,.inl rfl⟩
 ·intro c;exact .inl ⟨rfl,.inl rfl,.inl rfl⟩
 ·intro c;exact .inl ⟨rfl,.inl rfl,.inl rfl⟩
 ·intro c;exact .inl ⟨rfl,.inl rfl,.inl rfl⟩
 ·intro c;exact .inl ⟨rfl,.inl rfl,.inl rfl⟩
 ·intro c;unfold zi0
  refine .inl ⟨by rw [zbd],(zCF s x.G).imp id (fun h=> .inl ⟨h,.inr c⟩),.inl (by rw [zbd])⟩
 ·intro c;exact .inl ⟨rfl,.inr (.inr rfl),.inr (.inr rfl)⟩
 ·intro c;exact .inl ⟨rfl,.inl rfl,.inl rfl⟩
 ·exact .inl ⟨rfl,.inl rfl,.inl rfl⟩
def za4 (n:Int) (x:zc):Prop:=(∀v∈x.Buf,v≤n)∧x.Old≤n∧(x.PC=3∨x.PC=37→x.G.Obj≤n)
theorem zxA {h:zt} {n:Int} (h0:0≤n) (hv: ∀l∈h.Objs,∀v∈l,v≤n) (o i:Int):xx h o i≤n:=by
 unfold xx
 split
 ·rw [List.getD_eq_getElem?_getD]
  cases hx:(zV h o)[i.toNat]? with
  | none=>exact h0
  | some v =>
   have hm:=List.mem_of_getElem? hx
   unfold zV at hm
   rw [List.getD_eq_getElem?_getD] at hm
   cases hy:h.Objs[(o-1).toNat]? with
   | none=>rw [hy] at hm;cases hm
   | some l=>rw [hy] at hm;exact hv l (List.mem_of_getElem? hy) v hm
 ·exact h0
theorem zwn {p:zb} {nb:Nat} {s:za} {m:Int} {x:zc} (X:XOk p nb m x) {n:Int} (h0:0≤n) (hv: ∀l∈s.H.Objs,∀v∈l,v≤n) (B:za4 n x):za4 n (zA s m x).2:=by
 obtain ⟨b1,b2,b3⟩:=B
 have no: ∀ {y:zc},(∀v∈y.Buf,v≤n)→y.Old≤n→¬(y.PC=3∨y.PC=37)→za4 n y:=fun h1 h2 h3=>⟨h1,h2,fun e=>absurd e h3⟩
 refine un (motive:=fun r=>za4 n r.2) s m x ?_ ?_ ?_ ?_ ?_ ?_ ?_ ?_ ?_ ?_ ?_ ?_ ?_ ?_ ?_ ?_ ?_ ?_ ?_ ?_
 ·intro c;unfold mu0 zdv
  repeat' split
  all_goals exact no b1 b2 (by dsimp only [setM];omega)
 ·intro c;unfold mu1;dsimp only
  split
  ·exact no b1 b2 (by have:=X.ret (.inl c);show ¬(x.Ret=3∨x.Ret=37);omega)
  ·rename_i hl
   refine ⟨fun v hv=>b1 v (List.mem_of_mem_take hv),b2,fun _=> ?_⟩
   show x.Buf.getD (x.Buf.length-1) 0≤n
   rw [List.getD_eq_getElem?_getD,List.getElem?_eq_getElem (show x.Buf.length-1<x.Buf.length by omega)]
   exact b1 _ (List.getElem_mem _)
 ·intro c;unfold mu2;exact no b1 b2 (by show ¬((0:Int)=3∨(0:Int)=37);decide)
 ·intro c;unfold mu3;dsimp only
  split
  ·exact no b1 b2 (by show ¬((1:Int)=3∨(1:Int)=37);decide)
  ·exact ⟨b1,b2,fun _=>by show (zx s x.G).2.Obj≤n;rw [(Um s x.G).1];exact b3 (.inl c)⟩
 ·intro c;unfold znO;exact no b1 b2 (by show ¬((0:Int)=3∨(0:Int)=37);decide)
 ·intro c;unfold zl4;dsimp only
  split
  ·exact no b1 b2 (by show ¬((0:Int)=3∨(0:Int)=37);decide)
  ·exact no b1 (zxA h0 hv _ _) (by show ¬((21:Int)=3∨(21:Int)=37);decide)
 ·intro c;unfold zl7;dsimp only
  split
  ·exact no b1 h0 (by show ¬((23:Int)=3∨(23:Int)=37);decide)
  ·exact no b1 b2 (by show ¬((22:Int)=3∨(22:Int)=37);decide)
 ·intro c;unfold zlX;dsimp only
  split
  ·exact no b1 b2 (by show ¬((1:Int)=3∨(1:Int)=37);decide)
  ·refine no (fun v hv=> ?_) h0 (by show ¬((23:Int)=3∨(23:Int)=37);decide)
   rcases List.mem_append.1 hv with h | h
   ·exact b1 v h
   ·rw [List.mem_singleton.1 h];exact b2
 ·intro c;unfold znq;exact no b1 b2 (by show ¬((0:Int)=3∨(0:Int)=37);decide)
 ·intro c;unfold zhc
  split
  ·split
   ·exact no b1 b2 (by show ¬((0:Int)=3∨(0:Int)=37);decide)
   ·exact no b1 b2 (by show ¬((0:Int)=3∨(0:Int)=37);decide)
  ·exact no b1 b2 (by show ¬((31:Int)=3∨(31:Int)=37);decide)
 ·intro c;unfold zmc;dsimp only
  split
  ·exact no b1 b2 (by show ¬((32:Int)=3∨(32:Int)=37);decide)
  ·exact no b1 b2 (by show ¬((0:Int)=3∨(0:Int)=37);decide)
 ·intro c;unfold zlM;dsimp only
  split
  ·exact no b1 b2 (by show ¬((33:Int)=3∨(33:Int)=37);decide)
  split
  ·exact no b1 b2 (by show ¬((0:Int)=3∨(0:Int)=37);decide)
  ·exact no b1 b2 (by show ¬(x.PC=3∨x.PC=37);omega)
 ·intro c;unfold znH;exact no b1 b2 (by show ¬((34:Int)=3∨(34:Int)=37);decide)
 ·intro c;unfold zmb;dsimp only
  split
  ·exact no b1 b2 (by show ¬((35:Int)=3∨(35:Int)=37);decide)
  ·exact no b1 b2 (by show ¬(x.PC=3∨x.PC=37);omega)
 ·intro c;unfold zlJ;dsimp only
  split
  ·exact no b1 b2 (by show ¬((0:Int)=3∨(0:Int)=37);decide)
  ·exact no b1 b2 (by show ¬((36:Int)=3∨(36:Int)=37);decide)
 ·intro c;unfold zl8;dsimp only
  split
  ·exact no b1 b2 (by have:=zgu s (wc (x.Slot+1));show ¬(onM s (wc (x.Slot+1))=3∨onM s (wc (x.Slot+1))=37);omega)
  ·exact ⟨b1,b2,fun _=>zxA h0 hv _ _⟩
 ·intro c;unfold zi0;dsimp only
  split
  ·exact no b1 b2 (by have:=zgu s x.Slot;show ¬(onM s x.Slot=3∨onM s x.Slot=37);omega)
  ·exact ⟨b1,b2,fun _=>by show (zx s x.G).2.Obj≤n;rw [(Um s x.G).1];exact b3 (.inr c)⟩
 ·intro c;unfold znV;exact no b1 b2 (by show ¬((39:Int)=3∨(39:Int)=37);decide)
 ·intro c;unfold zpQ;exact no b1 b2 (by show ¬((35:Int)=3∨(35:Int)=37);decide)
 ·exact ⟨b1,b2,b3⟩
theorem zqu: ∀(l:List Int) (i:Nat) (v:Int),i<l.length→(l.set i v).sum=l.sum-l.getD i 0+v
 | [],i,v,h=>by simp at h
 | a::l,0,v,h=>by simp only [List.set_cons_zero,List.sum_cons,List.getD_cons_zero];omega
 | a::l,i+1,v,h=>by
  simp only [List.set_cons_succ,List.sum_cons,List.getD_cons_succ,zqu l i v (by simpa using h)];omega
structure LdI (p:zb) (k d:Int) (l:zk):Prop where
 pool:l.Pool=0
 sc:0≤l.Scanned∧l.Scanned≤k
 sp:l.Spent=p.Price*d
 bal: ∀b∈l.Bal,-p.Limit≤b∧b≤k
 sum:l.Bal.sum=l.Scanned-l.Spent
theorem LdI.more {p:zb} {k d:Int} {l:zk} (I:LdI p k d l):LdI p (k+1) d l :=
 ⟨I.pool,by have:=I.sc;omega,I.sp,fun b hb=>by have:=I.bal b hb;omega,I.sum⟩
theorem zB8 {l:List Int} {i:Nat} (h:i<l.length):l.getD i 0∈l:=by
 rw [List.getD_eq_getElem?_getD,List.getElem?_eq_getElem h];exact List.getElem_mem h
theorem LdI.take {p:zb} {k d:Int} {l:zk} (I:LdI p k d l) (m w:Int):(zcn l m w).1=l:=by
 unfold zcn zlP
 rw [if_neg]
 rintro ⟨_,h⟩
 rw [I.pool] at h
 split at h<;>omega
theorem LdI.earn {p:zb} (hp:zB p) {k d:Int} (hk:0≤k∧k≤1000) {l:zk} (I:LdI p k d l) {m:Int} (hm:1≤m∧m≤(l.Bal.length:Int)):LdI p (k+1) d (zcj l m):=by
 have hsc:=I.sc
 have hl:=hp.limit
 have hb:=I.bal _ (zB8 (l:=l.Bal) (i:=(m-1).toNat) (by omega))
 unfold zcj
 rw [if_pos hm]
 have w1:wc (l.Scanned+1)=l.Scanned+1:=xu (by omega) (by omega)
 have w2:wc (l.Bal.getD (m-1).toNat 0+1)=l.Bal.getD (m-1).toNat 0+1:=xu (by omega) (by omega)
 rw [w1,w2]
 refine ⟨I.pool,by dsimp only;omega,I.sp,fun b hb'=> ?_,?_⟩
 ·rcases List.mem_or_eq_of_mem_set hb' with h | rfl
  ·have:=I.bal b h;omega
  ·omega
 ·dsimp only
  rw [zqu _ _ _ (by omega),I.sum];omega
theorem zBC {a d:Int} (h:0≤a∧a≤3):a*(d+1)=a*d+a:=by rw [Int.mul_add,Int.mul_one]
theorem zC3 {a d:Int} (h:0≤a∧a≤3) (hd:0≤d∧d≤10):0≤a*d∧a*d≤30:=by
 refine ⟨Int.mul_nonneg h.1 hd.1,?_⟩
 have:=Int.mul_le_mul h.2 hd.2 hd.1 (by decide:(0:Int)≤3)
 omega
theorem LdI.spend {p:zb} (hp:zB p) {k d:Int} (hk:0≤k∧k≤1000) (hd:0≤d∧d≤9) {l:zk} (I:LdI p k d l) {m:Int} (h:zfu l m p.Price p.Limit=true):LdI p (k+1) (d+1) (zbR l m p.Price):=by
 have hsc:=I.sc
 have hl:=hp.limit
 have hpr:=hp.price
 have hsp:=zC3 hpr (d:=d) (by omega)
 have e1:=I.sp
 unfold zfu UV UI at h
 simp only [Bool.and_eq_true,decide_eq_true_eq] at h
 obtain ⟨⟨⟨⟨⟨⟨m1,m2⟩,_⟩,_⟩,_⟩,_⟩,h⟩:=h
 have hb:=I.bal _ (zB8 (l:=l.Bal) (i:=(m-1).toNat) (by omega))
 unfold za3 at h
 rw [xu (by omega) (by omega),xu (by omega) (by omega)] at h
 unfold zbR za3
 rw [xu (by omega) (by omega),xu (by omega) (by omega)]
 refine ⟨I.pool,by dsimp only;omega,?_,fun b hb'=> ?_,?_⟩
 ·dsimp only;rw [zBC hpr];omega
 ·rcases List.mem_or_eq_of_mem_set hb' with h2 | rfl
  ·have:=I.bal b h2;omega
  ·omega
 ·dsimp only
  rw [zqu _ _ _ (by omega),I.sum];omega
structure NwI (p:zb) (k:Int) (s:za):Prop where
 mrk: ∀o,zY s.T.Marks o=true→o≤(s.H.Objs.length:Int)
 bm: ∀o,zY s.T.Black o=true→zY s.T.Marks o=true
 bk: ∀o,(p.H.Objs.length:Int)<o→o≤(s.H.Objs.length:Int)→wT s.T o=2
 buf: ∀x∈s.Ms,za4 (s.H.Objs.length:Int) x
 bl:s.L.Bal.length=s.Ms.length
 L:LdI p k ((s.H.Objs.length:Int)-(p.H.Objs.length:Int)) s.L
theorem zDj (l:zk) (m:Int):(zcj l m).Bal.length=l.Bal.length:=by unfold zcj;split<;>simp
theorem NwI.step {p:zb} {nb:Nat} (hp:zB p) {k:Int} (hk:0≤k∧k≤1000) {s:za} (E:EOk p nb s) (I:NwI p k s) (m:Int):NwI p (k+1) (yG s m):=by
 have hN:=E.H.n
 have hM:=hp.most
 have hn6:=hp.n
 unfold yG
 split
 ·exact ⟨I.mrk,I.bm,I.bk,I.buf,I.bl,I.L.more⟩
 rename_i hne
 cases hx:s.Ms[(m-1).toNat]? with
 | none=>exact ⟨I.mrk,I.bm,I.bk,I.buf,I.bl,I.L.more⟩
 | some x =>
  have hm:1≤m∧m≤(s.Ms.length:Int):=by omega
  have X:=E.X _ x hx
  have B:=I.buf x (List.mem_of_getElem? hx)
  have em:(((m-1).toNat:Nat):Int)+1=m:=by omega
  rw [em] at X
  have B':=zwn (s:=s) X (n:=(s.H.Objs.length:Int)) (by omega) (fun l hl v hv=>((E.H.objs l hl).2 v hv).2) B
  have bufs: ∀N':Int,(s.H.Objs.length:Int)≤N'→∀y∈s.Ms.set (m-1).toNat (zA s m x).2,za4 N' y:=fun N' hN' y hy=>by
   have up: ∀ {z:zc},za4 (s.H.Objs.length:Int) z→za4 N' z:=fun ⟨a,b,c⟩=>⟨fun v hv=>by have:=a v hv;omega,by omega,fun e=>by have:=c e;omega⟩
   rcases List.mem_or_eq_of_mem_set hy with h | rfl
   ·exact up (I.buf y h)
   ·exact up B'
  have hL:=I.L
  rcases zr3 s m x with ⟨k1,k2,k3⟩ | ⟨k1,k2,k3,k4,k5⟩
  ·refine ⟨fun o ho=> ?_,fun o ho=> ?_,fun o h1 h2=> ?_,?_,?_,?_⟩
   ·dsimp only at ho ⊢
    rw [k1]
    rcases k2 with e | ⟨e,hpc⟩ | e
    ·rw [e] at ho;exact I.mrk o ho
    ·rw [e] at ho
     rcases (zgf s.T x.G.Obj).2 with e2 | e2
     ·rw [e2] at ho;exact I.mrk o ho
     ·rw [e2] at ho
      rcases zjT ho with h | rfl
      ·exact I.mrk o h
      ·exact B.2.2 hpc
    ·rw [e,(zmJ s.T x.Obj).1] at ho;exact I.mrk o ho
   ·dsimp only at ho ⊢
    rcases k2 with e | ⟨e,hpc⟩ | e
    ·rw [e] at ho ⊢;exact I.bm o ho
    ·rw [e] at ho ⊢
     rw [(zgf s.T x.G.Obj).1] at ho
     have:=I.bm o ho
     rcases (zgf s.T x.G.Obj).2 with e2 | e2
     ·rw [e2];exact this
     ·rw [e2];exact (Vh _ _ _).2 (.inl this)
    ·rw [e] at ho ⊢
     rw [(zmJ s.T x.Obj).1]
     rcases (zmJ s.T x.Obj).2 with e2 | ⟨e2,h3⟩
     ·rw [e2] at ho;exact I.bm o ho
     ·rw [e2] at ho
      rcases zjT ho with h | rfl
      ·exact I.bm o h
      ·exact h3
   ·dsimp only at h2 ⊢
    rw [k1] at h2
    have h:=(zw8 _ _).1 (I.bk o h1 h2)
    rw [zw8]
    rcases k2 with e | ⟨e,hpc⟩ | e
    ·rw [e];exact h
    ·rw [e,(zgf s.T x.G.Obj).1]
     refine ⟨?_,h.2⟩
     rcases (zgf s.T x.G.Obj).2 with e2 | e2
     ·rw [e2];exact h.1
     ·rw [e2];exact (Vh _ _ _).2 (.inl h.1)
    ·rw [e,(zmJ s.T x.Obj).1]
     refine ⟨h.1,?_⟩
     rcases (zmJ s.T x.Obj).2 with e2 | ⟨e2,_⟩
     ·rw [e2];exact h.2
     ·rw [e2];exact (Vh _ _ _).2 (.inl h.2)
   ·dsimp only;rw [k1];exact bufs _ (Int.le_refl _)
   ·dsimp only
    rw [List.length_set]
    rcases k3 with e | ⟨w,e⟩ | e
    ·rw [e];exact I.bl
    ·rw [e,hL.take];exact I.bl
    ·rw [e,zDj];exact I.bl
   ·dsimp only
    rw [k1]
    rcases k3 with e | ⟨w,e⟩ | e
    ·rw [e];exact hL.more
    ·rw [e,hL.take];exact hL.more
    ·rw [e];exact hL.earn hp hk (by have:=I.bl;omega)
  ·have w:wc ((s.H.Objs.length:Int)+1)=(s.H.Objs.length:Int)+1:=xu (by omega) (by omega)
   have hal:=zp1 s.H
   have hP:=E.S.P
   have hr:(s.H.Objs.length:Int)<s.P.Most:=by
    unfold Xm at k5
    simp only [Bool.and_eq_true,decide_eq_true_eq] at k5
    exact k5.1
   rw [hP] at hr k3 k4
   rw [w] at k2
   have nm: ¬zY s.T.Marks ((s.H.Objs.length:Int)+1)=true:=fun e=>by have:=I.mrk _ e;omega
   have nb': ¬zY s.T.Black ((s.H.Objs.length:Int)+1)=true:=fun e=>nm (I.bm _ e)
   have hsh:=zvM (t:=s.T) (o:=(s.H.Objs.length:Int)+1) (by omega) nm nb'
   have ht1:wT {s.T with Marks:=s.T.Marks|||bit ((s.H.Objs.length:Int)+1)} ((s.H.Objs.length:Int)+1)=1 :=
    (WZ _ _).2 ⟨(wa _ (by omega) _).2 (.inr rfl),nb'⟩
   have hT:(zA s m x).1.T=⟨s.T.Marks|||bit ((s.H.Objs.length:Int)+1),s.T.Black|||bit ((s.H.Objs.length:Int)+1)⟩:=by
    rw [k2]
    unfold X7
    rw [hsh]
    dsimp only
    rw [if_pos rfl]
    unfold wJ
    rw [if_pos ht1]
   refine ⟨fun o ho=> ?_,fun o ho=> ?_,fun o h1 h2=> ?_,?_,?_,?_⟩
   ·dsimp only at ho ⊢
    rw [k1,hal]
    rw [hT] at ho
    rcases zjT ho with h | rfl
    ·have:=I.mrk o h;omega
    ·omega
   ·dsimp only at ho ⊢
    rw [hT] at ho ⊢
    dsimp only at ho ⊢
    rw [Vh]
    rcases (Vh _ _ _).1 ho with h | h
    ·exact .inl (I.bm o h)
    ·exact .inr h
   ·dsimp only at h2 ⊢
    rw [k1,hal] at h2
    rw [zw8,hT]
    dsimp only
    by_cases ho:o≤(s.H.Objs.length:Int)
    ·have h:=(zw8 _ _).1 (I.bk o h1 ho)
     exact ⟨(Vh _ _ _).2 (.inl h.1),(Vh _ _ _).2 (.inl h.2)⟩
    ·have:o=(s.H.Objs.length:Int)+1:=by omega
     subst this
     exact ⟨(wa _ (by omega) _).2 (.inr rfl),(wa _ (by omega) _).2 (.inr rfl)⟩
   ·dsimp only;rw [k1,hal];exact bufs _ (by omega)
   ·dsimp only
    rw [List.length_set,k3]
    unfold zbR
    rw [List.length_set]
    exact I.bl
   ·dsimp only
    rw [k3,k1,hal]
    have:=hL.spend hp hk (by omega) k4
    have e:((s.H.Objs.length+1:Nat):Int)-(p.H.Objs.length:Int)=(s.H.Objs.length:Int)-(p.H.Objs.length:Int)+1:=by omega
    rw [e]
    exact this
end
end Go.Pe.G
namespace Go.Pe.G
open Go.Pe
noncomputable section
def vP (p:zb) (s:za) (g:Gh):List Int:=yn p s g++(s.Ws.flatMap (zJ s)++s.Ms.flatMap (zW s))
structure FG (p:zb) (nb k:Nat) (s:za) (gh:Gh):Prop where
 E:EOk p nb s
 X:SX p nb s gh (s.Ws.flatMap wg++s.Ms.flatMap ub) k
 W: ∀(i:Nat) x,s.Ws[i]? =some x→WX p s gh ((i:Int)+1) x
 M: ∀(i:Nat) x,s.Ms[i]? =some x→MX p s gh x
 B:zaf (vP p s gh) s.T
 mrk: ∀o,zY s.T.Marks o=true→o≤(s.H.Objs.length:Int)
 wob: ∀(i:Nat) x,s.Ws[i]? =some x→x.PC=6→x.G.Obj≤(s.H.Objs.length:Int)
 buf: ∀x∈s.Ms,za4 (s.H.Objs.length:Int) x
 bk: ∀o,(p.H.Objs.length:Int)<o→o≤(s.H.Objs.length:Int)→zY s.T.Black o=true
 ne: ∀y∈gh.F,yu s y≠[]
theorem FX.ne {p:zb} {nb k:Nat} {s s':za} {gh gh':Gh} {Y R:List Int} {O:Int→Prop} (X:SX p nb s gh (Y++R) k) (Fx:FX p nb Y O s s' gh gh') (h: ∀y∈gh.F,yu s y≠[]): ∀y∈gh'.F,yu s' y≠[]:=fun y hy =>
 (Fx.fb y hy).elim (fun hy=>by
  have h1:=zpw.1 (X.L.all.subset (List.mem_append_left _ (List.mem_append_left _ hy)))
  have h2:y∉Y:=fun e=>(X.L.notF (List.mem_append_left _ e)).1 hy
  have:=Fx.bn y h1.1 h2
  unfold yu
  rw [this];exact h y hy) id
theorem MX.state {p:zb} {s s':za} {gh:Gh} {x:zc} (W:MX p s gh x) (hm:s'.M=s.M) (hb:s'.Bins=s.Bins):MX p s' gh x :=
 ⟨W.bt,W.bf,W.ol,fun e=>⟨(W.p3 e).1.state hm hb,(W.p3 e).2⟩,by rw [hm];exact W.p32,by rw [hm];exact W.p34,fun e=>⟨(W.p37 e).1.state hm hb,(W.p37 e).2⟩⟩
theorem zfX {s s':za} {x:zc} (hb:s'.Bins=s.Bins):zW s' x=zW s x:=by
 unfold zW zbC yu;rw [hb]
def ziI (s s':za):Prop :=
 (s'.T=s.T∧s'.H.Objs.length=s.H.Objs.length) ∨
 (∃o,(1≤o∧o≤(s.H.Objs.length:Int))∧¬zY s.T.Marks o=true∧s'.T={s.T with Marks:=s.T.Marks|||bit o}∧s'.H=s.H) ∨
 (∃o,wT s.T o=1∧s'.T={s.T with Black:=s.T.Black|||bit o}∧s'.H=s.H) ∨
 (s'.H=Z4 s.H∧(s.H.Objs.length:Int)<9∧s'.T=⟨s.T.Marks|||bit ((s.H.Objs.length:Int)+1),s.T.Black|||bit ((s.H.Objs.length:Int)+1)⟩)
theorem FG.tints {p:zb} {nb k:Nat} {s:za} {gh:Gh} (G:FG p nb k s gh) {s':za} (F:ziI s s') :
  (∀o,zY s'.T.Marks o=true→o≤(s'.H.Objs.length:Int))∧(∀o,(p.H.Objs.length:Int)<o→o≤(s'.H.Objs.length:Int)→zY s'.T.Black o=true):=by
 rcases F with ⟨e,h⟩ | ⟨o,ho,hn,e,h⟩ | ⟨o,ho,e,h⟩ | ⟨h,hl,e⟩
 ·rw [e,h];exact ⟨G.mrk,G.bk⟩
 ·rw [e,h]
  refine ⟨fun q hq=> ?_,G.bk⟩
  rcases zjT hq with hq | rfl
  ·exact G.mrk q hq
  ·exact ho.2
 ·rw [e,h]
  exact ⟨G.mrk,fun q h1 h2=>(Vh _ _ _).2 (.inl (G.bk q h1 h2))⟩
 ·rw [e,h]
  have hal:=zp1 s.H
  refine ⟨fun q hq=> ?_,fun q h1 h2=> ?_⟩
  ·rcases zjT hq with hq | rfl
   ·have:=G.mrk q hq;omega
   ·omega
  ·dsimp only
   by_cases hq:q≤(s.H.Objs.length:Int)
   ·exact (Vh _ _ _).2 (.inl (G.bk q h1 hq))
   ·have:q=(s.H.Objs.length:Int)+1:=by omega
    subst this
    exact (wa _ (by omega) _).2 (.inr rfl)
theorem FG.det {p:zb} (hp:zB p) {nb k:Nat} {s:za} {gh:Gh} (G:FG p nb k s gh) (hd:({xy s with Epoch:=s.Epoch,Flag:=s.Flag,Done:=s.Done,Restarts:=s.Restarts,D:=s.D}:za)=s):FG p nb (k+1) (xy s) gh:=by
 have hE:=zD2 hp G.E
 have eM:(xy s).M=s.M:=by conv=>rhs;rw [←hd]
 have eB:(xy s).Bins=s.Bins:=by conv=>rhs;rw [←hd]
 have eT:(xy s).T=s.T:=by conv=>rhs;rw [←hd]
 have eH:(xy s).H=s.H:=by conv=>rhs;rw [←hd]
 have eW:(xy s).Ws=s.Ws:=by conv=>rhs;rw [←hd]
 have eX:(xy s).Ms=s.Ms:=by conv=>rhs;rw [←hd]
 refine ⟨hE,?_,?_,?_,?_,by rw [eT,eH];exact G.mrk,by rw [eW,eH];exact G.wob,by rw [eX,eH];exact G.buf,by rw [eT,eH];exact G.bk,by unfold yu;rw [eB];exact G.ne⟩
 ·rw [eW,eX];exact G.X.quiet hE.S eM
 ·rw [eW];exact fun i x hx=>(G.W i x hx).state eM eB
 ·rw [eX];exact fun i x hx=>(G.M i x hx).state eM eB
 ·have e:vP p (xy s) gh=vP p s gh:=by
   unfold vP
   rw [eW,eX,uR eB,xB (fun x _=>zcd (x:=x) eM eB),xB (fun x _=>zfX (x:=x) eB)]
  rw [e,eT];exact G.B
theorem FG.worker {p:zb} (hp:zB p) {nb k:Nat} {s:za} {gh:Gh} (hk:k<4294960000) (G:FG p nb k s gh) {w:Int} (hw:1≤w∧w≤p.Workers) (hd:s.Done=false): ∃gh',FG p nb (k+1) (yz s w) gh'∧ziI s (yz s w) ∧
  ∃x,s.Ws[(w-1).toNat]? =some x∧∃N C,List.Perm (vP p (yz s w) gh'++C) (N++vP p s gh)∧((N=[]∧C=[]∧(zp s w x).1.T=s.T)∨(N=[x.G.Obj]∧C=[]∧x.PC=6∧¬(s.T.Marks|||bit x.G.Obj=s.T.Marks)∧(zp s w x).1.T={s.T with Marks:=s.T.Marks|||bit x.G.Obj})∨(N=[]∧C=[x.Obj]∧x.PC=8∧(zp s w x).1.T=wJ s.T x.Obj)):=by
 have hE:=zsb hp G.E w
 have hwl:=G.E.wl
 have e0: ¬(s.Done=true∨w<1∨(s.Ws.length:Int)<w):=by rw [hd];rintro (e | e | e)<;>first | cases e | omega
 revert hE
 unfold yz
 rw [if_neg e0]
 have hi:(w-1).toNat<s.Ws.length:=by omega
 have hx:=List.getElem?_eq_getElem hi
 generalize s.Ws[(w-1).toNat]=x at hx
 rw [hx]
 dsimp only
 intro hE
 obtain ⟨a,b,el,es,hab,hba⟩:=zsp hx
 have ei:(((w-1).toNat:Nat):Int)+1=w:=by omega
 have hWX:=G.W _ x hx
 have hWO:=G.E.W _ x hx
 rw [ei] at hWX hWO
 have hfr:=zt8 (s:=s) hWO
 have eH:(zp s w x).1.H=s.H:=by rw [hfr]
 have eMs:(zp s w x).1.Ms=s.Ms:=by rw [hfr]
 have X0:SX p nb s gh (wg x++((a++b).flatMap wg++s.Ms.flatMap ub)) k:=by
  refine G.X.perm ?_
  rw [←List.append_assoc]
  refine List.Perm.append_right _ ?_
  conv=>rhs;rw [el]
  exact u9.symm
 obtain ⟨gh',X',W',Fx,N,C,hN,hT⟩:=zD5 hp hk hw X0 hWO hWX (fun o i=>G.E.H.get hp o i)
 have hoth: ∀(j:Nat) y,j≠(w-1).toNat→s.Ws[j]? =some y→WX p (zp s w x).1 gh' ((j:Int)+1) y∧zJ (zp s w x).1 y=zJ s y:=by
  intro j y hj hy
  have hjl:=(List.getElem?_eq_some_iff.1 hy).1
  exact WX.other hp (w:=(j:Int)+1) (by omega) X0 Fx (G.W j y hy) (G.E.W j y hy) (fun z hz=>List.mem_append_left _ (List.mem_flatMap.2 ⟨y,hba j y hj hy,hz⟩)) (fun e=>hj (by omega))
 have hmut: ∀(j:Nat) y,s.Ms[j]? =some y→MX p (zp s w x).1 gh' y∧zW (zp s w x).1 y=zW s y:=by
  intro j y hy
  exact MX.other hp X0 Fx (G.M j y hy) (G.E.X j y hy) (fun z hz=>List.mem_append_right _ (List.mem_flatMap.2 ⟨y,List.mem_of_getElem? hy,hz⟩))
 have hbag:List.Perm (vP p {(zp s w x).1 with Ws:=s.Ws.set (w-1).toNat (zp s w x).2} gh'++C) (N++vP p s gh):=by
  unfold vP
  have q2:(s.Ws.set (w-1).toNat (zp s w x).2).flatMap (zJ {(zp s w x).1 with Ws:=s.Ws.set (w-1).toNat (zp s w x).2})=(a++(zp s w x).2::b).flatMap (zJ (zp s w x).1):=by
   rw [es];exact xB (fun y _=>zcd rfl rfl)
  have q3:(a++b).flatMap (zJ (zp s w x).1)=(a++b).flatMap (zJ s):=xB (fun y hy=>by
   obtain ⟨j,hj,hjy⟩:=hab y hy
   exact (hoth j y hj hjy).2)
  have q4:(zp s w x).1.Ms.flatMap (zW {(zp s w x).1 with Ws:=s.Ws.set (w-1).toNat (zp s w x).2})=s.Ms.flatMap (zW s):=by
   rw [eMs]
   refine xB (fun y hy=> ?_)
   obtain ⟨j,hj⟩:=List.mem_iff_getElem?.1 hy
   exact (zfX (s:=(zp s w x).1) rfl).trans (hmut j y hj).2
  show List.Perm (yn p (zp s w x).1 gh'++((s.Ws.set (w-1).toNat (zp s w x).2).flatMap (zJ {(zp s w x).1 with Ws:=s.Ws.set (w-1).toNat (zp s w x).2})++(zp s w x).1.Ms.flatMap (zW {(zp s w x).1 with Ws:=s.Ws.set (w-1).toNat (zp s w x).2}))++C) _
  rw [q2,q4]
  have r1:List.Perm (yn p (zp s w x).1 gh'++((a++(zp s w x).2::b).flatMap (zJ (zp s w x).1)++s.Ms.flatMap (zW s))++C) (((a++b).flatMap (zJ s)++s.Ms.flatMap (zW s))++(yn p (zp s w x).1 gh'++zJ (zp s w x).1 (zp s w x).2++C)):=by
   refine ((List.Perm.append_left _ (List.Perm.append_right _ u9)).append_right C).trans ?_
   rw [q3]
   generalize (a++b).flatMap (zJ s)=u
   generalize s.Ms.flatMap (zW s)=v
   generalize yn p (zp s w x).1 gh'=y
   generalize zJ (zp s w x).1 (zp s w x).2=z
   have:List.Perm (y++(z++(u++v))++C) ((u++v)++(y++z++C)):=by
    generalize u++v=q
    rw [List.append_assoc,List.append_assoc,List.append_assoc]
    refine (List.Perm.append_left _ (List.perm_append_comm_assoc _ _ _)).trans ?_
    exact (List.perm_append_comm_assoc _ _ _)
   rw [List.append_assoc z u v]
   exact this
  have r2:List.Perm (N++(yn p s gh++(s.Ws.flatMap (zJ s)++s.Ms.flatMap (zW s)))) (((a++b).flatMap (zJ s)++s.Ms.flatMap (zW s))++(N++(yn p s gh++zJ s x))):=by
   conv=>lhs;rw [el]
   refine (List.Perm.append_left _ (List.Perm.append_left _ (List.Perm.append_right _ u9))).trans ?_
   generalize (a++b).flatMap (zJ s)=u
   generalize s.Ms.flatMap (zW s)=v
   generalize yn p s gh=y
   generalize zJ s x=z
   rw [List.append_assoc z u v]
   generalize u++v=q
   refine (List.Perm.append_left _ ?_).trans (List.perm_append_comm_assoc _ _ _)
   rw [←List.append_assoc]
   exact List.perm_append_comm
  exact r1.trans ((List.Perm.append_left _ hN).trans r2.symm)
 have hFM:ziI s {(zp s w x).1 with Ws:=s.Ws.set (w-1).toNat (zp s w x).2}∧zaf (vP p {(zp s w x).1 with Ws:=s.Ws.set (w-1).toNat (zp s w x).2} gh') (zp s w x).1.T:=by
  rcases hT with ⟨e1,e2,t1⟩ | ⟨e1,e2,t1,t2,t3⟩ | ⟨e1,e2,t1,t2⟩
  ·rw [e1,e2,List.append_nil,List.nil_append] at hbag
   refine ⟨.inl ⟨t1,congrArg (fun h:zt=>h.Objs.length) eH⟩,⟨?_,hbag.nodup_iff.2 G.B.nd,fun o=> ?_⟩⟩
   ·rw [t1];exact G.B.blk
   ·rw [t1,hbag.mem_iff];exact G.B.gr o
  ·have ho:=((hWX.p6 t1).1).ob
   rw [e1,e2,List.append_nil] at hbag
   refine ⟨.inr (.inl ⟨x.G.Obj,⟨ho.1,G.wob _ x hx t1⟩,(zbj ho).1 t2,t3,eH⟩),?_⟩
   rw [t3]
   exact G.B.more ho t2 hbag
  ·rw [e1,e2,List.nil_append] at hbag
   obtain ⟨b1,b2,b3,b4⟩:=G.B.less hbag
   refine ⟨.inr (.inr (.inl ⟨x.Obj,b3,?_,eH⟩)),by rw [t2];exact b1⟩
   show (zp s w x).1.T=_
   rw [t2];unfold wJ;rw [if_pos b3]
 obtain ⟨hFM,hB⟩:=hFM
 obtain ⟨t1,t2⟩:=G.tints hFM
 refine ⟨gh',⟨hE,?_,fun j y hy=> ?_,fun j y hy=> ?_,hB,t1,fun j y hy h6=> ?_,fun y hy=> ?_,t2,fun y hy=>show yu (zp s w x).1 y≠[] from FX.ne X0 Fx G.ne y hy⟩,hFM,x,rfl,N,C,hbag,hT⟩
 ·refine (X'.state hE.S rfl).perm ?_
  show List.Perm ((s.Ws.set (w-1).toNat (zp s w x).2).flatMap wg++(zp s w x).1.Ms.flatMap ub) _
  rw [es,eMs,←List.append_assoc]
  exact List.Perm.append_right _ u9
 ·have hy:(s.Ws.set (w-1).toNat (zp s w x).2)[j]? =some y:=hy
  by_cases hj:j=(w-1).toNat
  ·subst hj
   rw [List.getElem?_set_self hi] at hy
   injection hy with hy
   rw [←hy,ei]
   exact W'.state rfl rfl
  ·rw [List.getElem?_set_ne (fun e=>hj e.symm)] at hy
   exact (hoth j y hj hy).1.state rfl rfl
 ·have hy:(zp s w x).1.Ms[j]? =some y:=hy
  rw [eMs] at hy
  exact (hmut j y hy).1.state rfl rfl
 ·have hy:(s.Ws.set (w-1).toNat (zp s w x).2)[j]? =some y:=hy
  show y.G.Obj≤((zp s w x).1.H.Objs.length:Int)
  rw [eH]
  by_cases hj:j=(w-1).toNat
  ·subst hj
   rw [List.getElem?_set_self hi] at hy
   injection hy with hy
   rw [←hy] at h6 ⊢
   rcases zyc s w x h6 with ⟨h,e⟩ | ⟨h,e⟩
   ·rw [e];exact G.wob _ x hx h
   ·rw [e];exact zxA (by omega) (fun l hl v hv=>((G.E.H.objs l hl).2 v hv).2) _ _
  ·rw [List.getElem?_set_ne (fun e=>hj e.symm)] at hy
   exact G.wob j y hy h6
 ·have hy:y∈(zp s w x).1.Ms:=hy
  show za4 ((zp s w x).1.H.Objs.length:Int) y
  rw [eMs] at hy
  rw [eH]
  exact G.buf y hy
theorem zxq (s:za) (m:Int) (x:zc):(zA s m x).1.H=s.H∨x.PC=23∨x.PC=30:=by
 refine un (motive:=fun r=>r.1.H=s.H∨x.PC=23∨x.PC=30) s m x ?_ ?_ ?_ ?_ ?_ ?_ ?_ ?_ ?_ ?_ ?_ ?_ ?_ ?_ ?_ ?_ ?_ ?_ ?_ ?_
 all_goals first
  | exact fun _=> .inl rfl
  | exact fun c=> .inr (.inl c)
  | exact fun c=> .inr (.inr c)
  | (intro c;unfold mu3;exact .inl (by dsimp only;rw [zbd]))
  | (intro c;unfold zi0;exact .inl (by dsimp only;rw [zbd]))
  | exact .inl rfl
theorem zyi {t:zo} {n:Int} (hn:1≤n∧n≤64) (nm: ¬zY t.Marks n=true) (nb': ¬zY t.Black n=true):X7 t n=⟨t.Marks|||bit n,t.Black|||bit n⟩:=by
 have ht1:wT {t with Marks:=t.Marks|||bit n} n=1:=(WZ _ _).2 ⟨(wa _ hn _).2 (.inr rfl),nb'⟩
 unfold X7
 rw [zvM hn nm nb']
 dsimp only
 rw [if_pos rfl]
 unfold wJ
 rw [if_pos ht1]
theorem zaf.fresh {B B':List Int} {t:zo} {n:Int} (hn:1≤n∧n≤64) (nm: ¬zY t.Marks n=true) (K:zaf B t) (h:List.Perm B' B):zaf B' ⟨t.Marks|||bit n,t.Black|||bit n⟩:=by
 refine ⟨fun o ho=> ?_,h.nodup_iff.2 K.nd,fun o=> ?_⟩
 ·rcases (wa _ hn o).1 ho with h | h
  ·exact (wa _ hn o).2 (.inl (K.blk o h))
  ·exact (wa _ hn o).2 (.inr h)
 ·rw [h.mem_iff,K.gr,WZ,WZ]
  dsimp only
  rw [wa _ hn,wa _ hn]
  constructor
  ·rintro ⟨a1,a2⟩
   refine ⟨.inl a1,fun e=>e.elim a2 (fun e=> ?_)⟩
   rw [e] at a1;exact nm a1
  ·rintro ⟨a1,a2⟩
   exact ⟨a1.resolve_right (fun e=>a2 (.inr e)),fun e=>a2 (.inl e)⟩
theorem FG.mut_tint {p:zb} (hp:zB p) {nb k:Nat} {s:za} {gh:Gh} (G:FG p nb k s gh) {m:Int} {x:zc} (hMX:MX p s gh x) (hBI:za4 (s.H.Objs.length:Int) x) {l:List zc} {N C B':List Int}
  (hbag:List.Perm (B'++C) (N++vP p s gh))
  (hT:(N=[]∧C=[]∧(zA s m x).1.T=s.T)∨(N=[x.G.Obj]∧C=[]∧(x.PC=3∨x.PC=37)∧¬(s.T.Marks|||bit x.G.Obj=s.T.Marks)∧(zA s m x).1.T={s.T with Marks:=s.T.Marks|||bit x.G.Obj})∨(N=[]∧C=[x.Obj]∧x.PC=38∧(zA s m x).1.T=wJ s.T x.Obj) ∨
   (N=[]∧C=[]∧x.PC=30∧Xm s.H s.P.Most=true∧(zA s m x).1.H=Z4 s.H∧(zA s m x).1.T=X7 s.T (wc (s.H.Objs.length+1)))) :
  ziI s {(zA s m x).1 with Ms:=l}∧zaf B' (zA s m x).1.T:=by
 have hN0:=G.E.H.n
 have hM0:=hp.most
 have hn6:=hp.n
 have nm: ¬zY s.T.Marks ((s.H.Objs.length:Int)+1)=true:=fun e=>by have:=G.mrk _ e;omega
 have nb': ¬zY s.T.Black ((s.H.Objs.length:Int)+1)=true:=fun e=>nm (G.B.blk _ e)
 have hw:wc ((s.H.Objs.length:Int)+1)=(s.H.Objs.length:Int)+1:=xu (by omega) (by omega)
 rcases hT with ⟨e1,e2,t1⟩ | ⟨e1,e2,t1,t2,t3⟩ | ⟨e1,e2,t1,t2⟩ | ⟨e1,e2,t1,t2,t3,t4⟩
 ·rw [e1,e2,List.append_nil,List.nil_append] at hbag
  refine ⟨.inl ⟨t1,?_⟩,⟨?_,hbag.nodup_iff.2 G.B.nd,fun o=> ?_⟩⟩
  ·show (zA s m x).1.H.Objs.length=_
   rcases zr3 s m x with h | ⟨h1,h2,_,_,h5⟩
   ·exact h.1
   ·exfalso
    rw [t1,hw,zyi (by omega) nm nb'] at h2
    have h3:=congrArg zo.Marks h2
    exact nm (by rw [h3];exact (wa _ (by omega) _).2 (.inr rfl))
  ·rw [t1];exact G.B.blk
  ·rw [t1,hbag.mem_iff];exact G.B.gr o
 ·have ho:1≤x.G.Obj∧x.G.Obj≤64:=by
   rcases t1 with h | h
   ·exact (hMX.p3 h).1.ob
   ·exact (hMX.p37 h).1.ob
  rw [e1,e2,List.append_nil] at hbag
  have eH:(zA s m x).1.H=s.H:=by
   rcases zxq s m x with h | h | h
   ·exact h
   ·omega
   ·omega
  refine ⟨.inr (.inl ⟨x.G.Obj,⟨ho.1,hBI.2.2 t1⟩,(zbj ho).1 t2,t3,eH⟩),?_⟩
  rw [t3]
  exact G.B.more ho t2 hbag
 ·rw [e1,e2,List.nil_append] at hbag
  obtain ⟨b1,b2,b3,b4⟩:=G.B.less hbag
  have eH:(zA s m x).1.H=s.H:=by
   rcases zxq s m x with h | h | h
   ·exact h
   ·omega
   ·omega
  refine ⟨.inr (.inr (.inl ⟨x.Obj,b3,?_,eH⟩)),by rw [t2];exact b1⟩
  show (zA s m x).1.T=_
  rw [t2];unfold wJ;rw [if_pos b3]
 ·rw [e1,e2,List.append_nil,List.nil_append] at hbag
  have hr:(s.H.Objs.length:Int)<s.P.Most:=by
   unfold Xm at t2
   simp only [Bool.and_eq_true,decide_eq_true_eq] at t2
   exact t2.1
  rw [G.E.S.P] at hr
  have hTT:(zA s m x).1.T=⟨s.T.Marks|||bit ((s.H.Objs.length:Int)+1),s.T.Black|||bit ((s.H.Objs.length:Int)+1)⟩:=by
   rw [t4,hw,zyi (by omega) nm nb']
  refine ⟨.inr (.inr (.inr ⟨t3,by omega,hTT⟩)),?_⟩
  rw [hTT]
  exact G.B.fresh (by omega) nm hbag
theorem FG.mutator {p:zb} (hp:zB p) {nb k:Nat} {s:za} {gh:Gh} (hk:k<4294960000) (G:FG p nb k s gh) {m:Int} (hm:1≤m∧m≤p.Mutators) (hd:s.Done=false): ∃gh',FG p nb (k+1) (yG s m) gh'∧ziI s (yG s m) ∧
  ∃x,s.Ms[(m-1).toNat]? =some x∧∃N C,List.Perm (vP p (yG s m) gh'++C) (N++vP p s gh)∧((N=[]∧C=[]∧(zA s m x).1.T=s.T)∨(N=[x.G.Obj]∧C=[]∧(x.PC=3∨x.PC=37)∧¬(s.T.Marks|||bit x.G.Obj=s.T.Marks)∧(zA s m x).1.T={s.T with Marks:=s.T.Marks|||bit x.G.Obj})∨(N=[]∧C=[x.Obj]∧x.PC=38∧(zA s m x).1.T=wJ s.T x.Obj) ∨
   (N=[]∧C=[]∧x.PC=30∧Xm s.H s.P.Most=true∧(zA s m x).1.H=Z4 s.H∧(zA s m x).1.T=X7 s.T (wc (s.H.Objs.length+1)))):=by
 have hE:=zv7 hp G.E m
 have hml:=G.E.ml
 have hwl:=G.E.wl
 have hN0:=G.E.H.n
 have hM0:=hp.most
 have hn6:=hp.n
 have e0: ¬(s.Done=true∨m<1∨(s.Ms.length:Int)<m):=by rw [hd];rintro (e | e | e)<;>first | cases e | omega
 revert hE
 unfold yG
 rw [if_neg e0]
 have hi:(m-1).toNat<s.Ms.length:=by omega
 have hx:=List.getElem?_eq_getElem hi
 generalize s.Ms[(m-1).toNat]=x at hx
 rw [hx]
 dsimp only
 intro hE
 obtain ⟨a,b,el,es,hab,hba⟩:=zsp hx
 have ei:(((m-1).toNat:Nat):Int)+1=m:=by omega
 have hMX:=G.M _ x hx
 have hXO:=G.E.X _ x hx
 rw [ei] at hXO
 have hBI:=G.buf x (List.mem_of_getElem? hx)
 have hfr:=zwf s m x
 have eWs:(zA s m x).1.Ws=s.Ws:=by rw [hfr]
 have X0:SX p nb s gh (ub x++((a++b).flatMap ub++s.Ws.flatMap wg)) k:=by
  refine G.X.perm ?_
  rw [←List.append_assoc]
  refine List.Perm.trans (List.Perm.append_right _ ?_) List.perm_append_comm
  conv=>rhs;rw [el]
  exact u9.symm
 obtain ⟨gh',X',M',Fx,N,C,hN,hT⟩:=zF4 hp hk X0 hXO hMX (ztG hp m) (fun o i=>G.E.H.get hp o i)
 have hoth: ∀(j:Nat) y,j≠(m-1).toNat→s.Ms[j]? =some y→MX p (zA s m x).1 gh' y∧zW (zA s m x).1 y=zW s y:=by
  intro j y hj hy
  exact MX.other hp X0 Fx (G.M j y hy) (G.E.X j y hy) (fun z hz=>List.mem_append_left _ (List.mem_flatMap.2 ⟨y,hba j y hj hy,hz⟩))
 have hwrk: ∀(j:Nat) y,s.Ws[j]? =some y→WX p (zA s m x).1 gh' ((j:Int)+1) y∧zJ (zA s m x).1 y=zJ s y:=by
  intro j y hy
  have hjl:=(List.getElem?_eq_some_iff.1 hy).1
  exact WX.other hp (w:=(j:Int)+1) (by omega) X0 Fx (G.W j y hy) (G.E.W j y hy) (fun z hz=>List.mem_append_right _ (List.mem_flatMap.2 ⟨y,List.mem_of_getElem? hy,hz⟩)) (fun e=>e)
 have hbag:List.Perm (vP p {(zA s m x).1 with Ms:=s.Ms.set (m-1).toNat (zA s m x).2} gh'++C) (N++vP p s gh):=by
  unfold vP
  have q2:(s.Ms.set (m-1).toNat (zA s m x).2).flatMap (zW {(zA s m x).1 with Ms:=s.Ms.set (m-1).toNat (zA s m x).2})=(a++(zA s m x).2::b).flatMap (zW (zA s m x).1):=by
   rw [es];exact xB (fun y _=>zfX rfl)
  have q3:(a++b).flatMap (zW (zA s m x).1)=(a++b).flatMap (zW s):=xB (fun y hy=>by
   obtain ⟨j,hj,hjy⟩:=hab y hy
   exact (hoth j y hj hjy).2)
  have q4:(zA s m x).1.Ws.flatMap (zJ {(zA s m x).1 with Ms:=s.Ms.set (m-1).toNat (zA s m x).2})=s.Ws.flatMap (zJ s):=by
   rw [eWs]
   refine xB (fun y hy=> ?_)
   obtain ⟨j,hj⟩:=List.mem_iff_getElem?.1 hy
   exact (zcd (s:=(zA s m x).1) rfl rfl).trans (hwrk j y hj).2
  show List.Perm (yn p (zA s m x).1 gh'++((zA s m x).1.Ws.flatMap (zJ {(zA s m x).1 with Ms:=s.Ms.set (m-1).toNat (zA s m x).2})++(s.Ms.set (m-1).toNat (zA s m x).2).flatMap (zW {(zA s m x).1 with Ms:=s.Ms.set (m-1).toNat (zA s m x).2}))++C) _
  rw [q2,q4]
  have r1:List.Perm (yn p (zA s m x).1 gh'++(s.Ws.flatMap (zJ s)++(a++(zA s m x).2::b).flatMap (zW (zA s m x).1))++C) ((s.Ws.flatMap (zJ s)++(a++b).flatMap (zW s))++(yn p (zA s m x).1 gh'++zW (zA s m x).1 (zA s m x).2++C)):=by
   refine ((List.Perm.append_left _ (List.Perm.append_left _ u9)).append_right C).trans ?_
   rw [q3]
   generalize (a++b).flatMap (zW s)=u
   generalize s.Ws.flatMap (zJ s)=v
   generalize yn p (zA s m x).1 gh'=y
   generalize zW (zA s m x).1 (zA s m x).2=z
   refine ((List.Perm.append_left y (List.perm_append_comm_assoc v z u)).append_right C).trans ?_
   generalize v++u=q
   rw [List.append_assoc,List.append_assoc,List.append_assoc]
   refine (List.Perm.append_left _ (List.perm_append_comm_assoc _ _ _)).trans ?_
   exact (List.perm_append_comm_assoc _ _ _)
  have r2:List.Perm (N++(yn p s gh++(s.Ws.flatMap (zJ s)++s.Ms.flatMap (zW s)))) ((s.Ws.flatMap (zJ s)++(a++b).flatMap (zW s))++(N++(yn p s gh++zW s x))):=by
   conv=>lhs;rw [el]
   refine (List.Perm.append_left _ (List.Perm.append_left _ (List.Perm.append_left _ u9))).trans ?_
   generalize (a++b).flatMap (zW s)=u
   generalize s.Ws.flatMap (zJ s)=v
   generalize yn p s gh=y
   generalize zW s x=z
   refine (List.Perm.append_left N (List.Perm.append_left y (List.perm_append_comm_assoc v z u))).trans ?_
   generalize v++u=q
   refine (List.Perm.append_left _ ?_).trans (List.perm_append_comm_assoc _ _ _)
   rw [←List.append_assoc]
   exact List.perm_append_comm
  exact r1.trans ((List.Perm.append_left _ hN).trans r2.symm)
 have hlen:(zA s m x).1.H.Objs.length=s.H.Objs.length∨(zA s m x).1.H=Z4 s.H:=by
  rcases zr3 s m x with h | h
  ·exact .inl h.1
  ·exact .inr h.1
 have hFM:=G.mut_tint hp (m:=m) (l:=s.Ms.set (m-1).toNat (zA s m x).2) hMX hBI hbag hT
 obtain ⟨hFM,hB⟩:=hFM
 obtain ⟨t1,t2⟩:=G.tints hFM
 have hN1:(s.H.Objs.length:Int)≤((zA s m x).1.H.Objs.length:Int):=by
  rcases hlen with h | h
  ·omega
  ·rw [h,zp1];omega
 have B':=zwn (s:=s) hXO (n:=(s.H.Objs.length:Int)) (by omega) (fun l hl v hv=>((G.E.H.objs l hl).2 v hv).2) hBI
 refine ⟨gh',⟨hE,?_,fun j y hy=> ?_,fun j y hy=> ?_,hB,t1,fun j y hy h6=> ?_,fun y hy=> ?_,t2,fun y hy=>show yu (zA s m x).1 y≠[] from FX.ne X0 Fx G.ne y hy⟩,hFM,x,rfl,N,C,hbag,hT⟩
 ·refine (X'.state hE.S rfl).perm ?_
  show List.Perm ((zA s m x).1.Ws.flatMap wg++(s.Ms.set (m-1).toNat (zA s m x).2).flatMap ub) _
  rw [es,eWs,←List.append_assoc]
  exact List.perm_append_comm.trans (List.Perm.append_right _ u9)
 ·have hy:(zA s m x).1.Ws[j]? =some y:=hy
  rw [eWs] at hy
  exact (hwrk j y hy).1.state rfl rfl
 ·have hy:(s.Ms.set (m-1).toNat (zA s m x).2)[j]? =some y:=hy
  by_cases hj:j=(m-1).toNat
  ·subst hj
   rw [List.getElem?_set_self hi] at hy
   injection hy with hy
   rw [←hy]
   exact M'.state rfl rfl
  ·rw [List.getElem?_set_ne (fun e=>hj e.symm)] at hy
   exact (hoth j y hj hy).1.state rfl rfl
 ·have hy:(zA s m x).1.Ws[j]? =some y:=hy
  rw [eWs] at hy
  have:=G.wob j y hy h6
  show y.G.Obj≤((zA s m x).1.H.Objs.length:Int)
  omega
 ·have up: ∀ {z:zc},za4 (s.H.Objs.length:Int) z→za4 ((zA s m x).1.H.Objs.length:Int) z:=fun ⟨a,b,c⟩=>⟨fun v hv=>by have:=a v hv;omega,by omega,fun e=>by have:=c e;omega⟩
  rcases List.mem_or_eq_of_mem_set (show y∈s.Ms.set (m-1).toNat (zA s m x).2 from hy) with h | rfl
  ·exact up (G.buf y h)
  ·exact up B'
theorem zFH {p:zb} (h:zB p):FG p (zQ p+1) 0 (yv p) (gh0 p):=by
 have G:=zFB h
 have hn:=h.n
 have hms: ∀x∈(yv p).Ms,∃r,x=vG r:=fun x hx=>by
  obtain ⟨r,_,e⟩:=List.mem_map.1 (show x∈p.Regs.map vG from hx)
  exact ⟨r,e.symm⟩
 have own:(yv p).Ms.flatMap ub=[]:=zaW (fun x hx=>by
  obtain ⟨r,rfl⟩:=hms x hx
  exact vy ⟨by show (0:Int)≠3;decide,by show (0:Int)≠33;decide,by show (0:Int)≠34;decide,by show (0:Int)≠37;decide⟩)
 have hold:(yv p).Ms.flatMap (zW (yv p))=[]:=zaW (fun x hx=>by
  obtain ⟨r,rfl⟩:=hms x hx
  unfold zW
  rw [uq ⟨by show (0:Int)≠3;decide,by show (0:Int)≠33;decide,by show (0:Int)≠36;decide,by show (0:Int)≠37;decide,by show (0:Int)≠38;decide⟩];rfl)
 refine ⟨G.E,by rw [own,List.append_nil];exact G.X,G.W,fun i x hx=> ?_,?_,fun o ho=> ?_,fun i x hx h6=> ?_,fun x hx=> ?_,fun o h1 h2=> ?_,zFc h⟩
 ·obtain ⟨r,rfl⟩:=hms x (List.mem_of_getElem? hx)
  exact MX.plain ⟨by show (0:Int)≠3;decide,by show (0:Int)≠32;decide,by show (0:Int)≠34;decide,by show (0:Int)≠37;decide⟩ (fun _=>rfl) (fun v hv=>by cases hv)
   ⟨fun e=>absurd e (by show ¬(0:Int)=21;decide),fun e=>absurd e (by show ¬((0:Int)=22∨(((0:Int)=1∨(0:Int)=3)∧(0:Int)=22));decide)⟩
 ·have e:vP p (yv p) (gh0 p)=zpJ p (yv p) (gh0 p):=by unfold vP zpJ;rw [hold,List.append_nil]
  rw [e];exact G.B
 ·have ho:zY (Z9 p) o=true:=ho
  show o≤(p.H.Objs.length:Int)
  refine Int.not_lt.1 fun hlt=> ?_
  obtain ⟨a,b,_⟩:=(xC _ _).1 ho
  have b2: ¬zY (wY (p.H.Objs.length:Int)) o=true:=fun e=>by
   have:=(zol (n:=p.H.Objs.length) (by omega) o).1 e
   omega
  have b3:=(zcx _ _ o).2 ⟨ho,(zrK _ (by omega)).2 b2⟩
  rw [zmd h] at b3
  exact WW o b3
 ·obtain ⟨j,_,e⟩:=List.mem_map.1 (show x∈(List.range p.Workers.toNat).map (ux p) from List.mem_of_getElem? hx)
  rw [←e] at h6
  exact absurd h6 (by show ¬(0:Int)=6;decide)
 ·obtain ⟨r,rfl⟩:=hms x hx
  exact ⟨fun v hv=>(by cases hv),(by show (0:Int)≤(p.H.Objs.length:Int);omega),fun e=>absurd e (by show ¬((0:Int)=3∨(0:Int)=37);decide)⟩
 ·have:o≤(p.H.Objs.length:Int):=h2
  omega
theorem FG.grey {p:zb} {nb k:Nat} {s:za} {gh:Gh} (G:FG p nb k s gh) {o:Int} (h:o∈vP p s gh):wT s.T o=1:=(G.B.gr o).1 h
theorem zFC {p:zb} {s:za} {gh:Gh} {i:Nat} {x:zh} (hx:s.Ws[i]? =some x) {o:Int} (h:o∈zJ s x):o∈vP p s gh :=
 List.mem_append_right _ (List.mem_append_left _ (List.mem_flatMap.2 ⟨x,List.mem_of_getElem? hx,h⟩))
theorem zFi {p:zb} {s:za} {gh:Gh} {i:Nat} {x:zc} (hx:s.Ms[i]? =some x) {o:Int} (h:o∈zW s x):o∈vP p s gh :=
 List.mem_append_right _ (List.mem_append_right _ (List.mem_flatMap.2 ⟨x,List.mem_of_getElem? hx,h⟩))
end
end Go.Pe.G
namespace Go.Pe.G
open Go.Pe
noncomputable section
theorem zaH {l:List Int} (h:l.length<4294967296):yy l=some (ua l,()):=by
 rw [zwM,zv6 h];rfl
theorem znL (g:zu) (h:1≤g.Obj): ∃v,u6 g=some (v,())∧zem [v]=some (yi g,()):=by
 rw [zsJ,zi1]
 simp only [zj]
 have z:zem [0]=some ([],()):=by rw [zxU];rfl
 unfold yi
 by_cases c1:g.Out=0
 ·rw [if_pos c1]
  by_cases c2:3≤g.PC
  ·rw [if_pos c2]
   by_cases c3:g.PC≤7
   ·rw [if_pos c3,if_pos ⟨c1,c2,c3⟩]
    refine ⟨g.Obj,rfl,?_⟩
    rw [zxU]
    unfold zt3
    have:decide (g.Obj=0)=false:=decide_eq_false (by omega)
    simp [this]
   ·rw [if_neg c3,if_neg (fun e=>c3 e.2.2)];exact ⟨0,rfl,z⟩
  ·rw [if_neg c2,if_neg (fun e=>c2 e.2.1)];exact ⟨0,rfl,z⟩
 ·rw [if_neg c1,if_neg (fun e=>c1 e.1)];exact ⟨0,rfl,z⟩
theorem zDy {m:List (BitVec 64)} {p:zb} (hc:p.Cap<1000) (w:Int) (o:zd) {l:List Int} (hl:l.length<4000000) :
  ((yU p w).bind fun y5=>(xT m y5.1 p.Cap o).bind fun y6=>(yc (l++y6.1)).bind fun l7=>(yy l7).bind fun y8=>some (y8.1,()))=some (ua (l++XO m (zI p w) p.Cap o),()):=by
 have hi:=zCG m (zI p w) p.Cap o
 rw [UU,Option.bind_some,zzi hc,Option.bind_some,yp (by simp;omega),Option.bind_some,zaH (by simp;omega)];rfl
theorem zBx {p:zb} (h:zB p) {s:za} (hP:s.P=p) {w:Int} {t c:Nat} {l:List Int} {d:zd} (K:PK p s.M w t l c d):zhs s w d=some (ZT s.M d,()):=by
 have hc:=h.cap
 rw [zrL,hP]
 unfold ZT
 by_cases c3:d.PC=3
 ·rw [decide_eq_true c3,cond_true,yq]
  by_cases ct:d.T=d.B-1#64
  ·rw [if_pos ct,if_neg (fun e=>e.2 ct),zj,if_neg (show ¬d.PC=6 by omega),if_neg (show ¬d.PC=6 by omega)]
  ·rw [if_neg ct,if_pos ⟨c3,ct⟩,UU,Option.bind_some,zj,if_neg ?_]
   ·obtain ⟨b,e⟩:=zvE s.M (w64 ((w64 (zI p w+2))+(((d.B-1#64)%(BitVec.ofInt 64 p.Cap)).toInt))) 0#64 0#64
    have ea:w64 ((w64 (zI p w+2))+(((d.B-1#64)%(BitVec.ofInt 64 p.Cap)).toInt))=YL d (d.B-1#64):=by
     unfold YL v8
     rw [K.base,K.size,if_neg (by omega),xg]
    dsimp only
    rw [e,ea];rfl
   ·have hx:p.Cap=1∨p.Cap=2∨p.Cap=3:=by omega
    rcases hx with e | e | e<;>rw [e]<;>decide
 ·rw [decide_eq_false c3,cond_false,zj,if_neg (show ¬(d.PC=3∧d.T≠d.B-1#64) from fun e=>c3 e.1)]
  by_cases c6:d.PC=6
  ·rw [if_pos c6,if_pos c6]
  ·rw [if_neg c6,if_neg c6]
theorem zuK {p:zb} {nb k:Nat} {s:za} {gh:Gh} (G:FG p nb k s gh) {b:Int} (h:1≤b∧b<nb):idx s.Bins b=some (yu s b)∧(yu s b).length<1000000:=by
 have hl:=G.E.S.bins
 have hb:=List.getElem?_eq_getElem (show b.toNat<s.Bins.length by omega)
 have hm:=List.getElem_mem (show b.toNat<s.Bins.length by omega)
 unfold yu
 rw [w8 (by omega),hb]
 exact ⟨rfl,G.E.small.bin _ hm⟩
theorem zrh {p:zb} (h:zB p) {nb k:Nat} {s:za} {gh:Gh} (G:FG p nb k s gh) {i:Nat} {x:zh} (hx:s.Ws[i]? =some x):u7 s ((i:Int)+1)=some (ua (zJ s x++gh.D ((i:Int)+1)),()):=by
 have hil:=(List.getElem?_eq_some_iff.1 hx).1
 have hwl:=G.E.wl
 have hwk:=h.wk
 have hP:=G.E.S.P
 have hcap:=h.cap
 have W:=G.W i x hx
 have O:=G.E.W i x hx
 have hw:1≤(i:Int)+1∧(i:Int)+1≤p.Workers:=by omega
 have D:=G.X.D _ hw.1 hw.2
 have hb:=G.E.small.w x (List.mem_of_getElem? hx)
 have e1:w64 ((i:Int)+1-1)=(i:Int):=by rw [zU (by omega) (by omega)];omega
 have none0:XO s.M (zI p ((i:Int)+1)) p.Cap (zd.mk 0 0 0 0 0#64 0#64 0 0)=gh.D ((i:Int)+1)∨x.PC=0:=by
  by_cases p0:x.PC=0
  ·exact .inr p0
  ·refine .inl (zog h hw (by have:=W.c0 p0;rw [this] at D;exact D) (fun e=>absurd e.1 (by show ¬(0:Int)=2;decide)))
 rw [zkp,zj,if_neg (by omega),zj,if_neg (by omega),e1,xp hx,Option.bind_some,Xq (by omega),Option.bind_some,hP]
 generalize hwi:(i:Int)+1=w at *
 unfold zJ UH
 have hpc:=O.pc
 have cases10:x.PC=0∨x.PC=1∨x.PC=2∨x.PC=3∨x.PC=4∨x.PC=5∨x.PC=6∨x.PC=7∨x.PC=8∨x.PC=9:=by omega
 have fin: ∀ {l:List Int} (o:zd),l.length<4000000→XO s.M (zI p w) p.Cap o=gh.D w→((yU p w).bind fun y5=>(xT s.M y5.1 p.Cap o).bind fun y6=>(yc (l++y6.1)).bind fun l7=>(yy l7).bind fun y8=>some (y8.1,()))=some (ua (l++gh.D w),()):=fun o hl e=>by
  rw [zDy (by omega) w o hl,e]
 rcases cases10 with c | c | c | c | c | c | c | c | c | c
 all_goals simp only [c,Int.reduceEq,decide_true,decide_false,cond_true,cond_false,if_true,if_false,or_true,or_false,true_or,false_or]
 ·have K:=W.p0 c
  have hpl:(ZT s.M x.D).length≤1:=by
   unfold ZT
   split
   ·simp
   ·split<;>simp
  rw [zBx h hP K,Option.bind_some,yp (by simp;omega),Option.bind_some]
  exact fin _ (by simp;omega) (zBq h hw D K)
 ·rw [List.append_nil];exact fin _ (by omega) (none0.resolve_right (by omega))
 ·rw [List.append_nil];exact fin _ (by omega) (none0.resolve_right (by omega))
 ·obtain ⟨b1,b2⟩:=zuK G (O.b3 c)
  rw [b1,Option.bind_some,yp (by simp;omega),Option.bind_some]
  exact fin _ (by simp;omega) (none0.resolve_right (by omega))
 ·rw [List.append_nil];exact fin _ (by omega) (none0.resolve_right (by omega))
 ·rw [yp (by simp;omega),Option.bind_some]
  exact fin _ (by simp;omega) (none0.resolve_right (by omega))
 ·obtain ⟨g1,g2,g3,g4⟩:=W.p6 c
  have hob:=g1.ob
  obtain ⟨v,v1,v2⟩:=znL x.G hob.1
  have hhl:(yi x.G).length≤1:=by unfold yi;split<;>simp
  rw [yp (by simp;omega),Option.bind_some,v1,Option.bind_some]
  dsimp only
  rw [v2,Option.bind_some,yp (by simp;omega),Option.bind_some]
  have ea:x.Batch++x.Obj::yi x.G=x.Batch++[x.Obj]++yi x.G:=by simp
  rw [ea,zj]
  by_cases g3':x.G.PC=3
  ·rw [if_pos g3']
   have:=(g1.d3 g3' g4).2.2.kind
   exact fin _ (by simp;omega) (zog h hw (by have:=W.c0 (by omega);rw [this] at D;exact D) (fun e=>by have:=e.1;omega))
  ·rw [if_neg g3']
   exact fin _ (by simp;omega) (none0.resolve_right (by omega))
 ·rw [List.append_nil];exact fin _ (by omega) (none0.resolve_right (by omega))
 ·rw [yp (by simp;omega),Option.bind_some]
  exact fin _ (by simp;omega) (none0.resolve_right (by omega))
 ·rw [List.append_nil];exact fin _ (by omega) (none0.resolve_right (by omega))
theorem zpe {p:zb} (h:zB p) {nb k:Nat} {s:za} {gh:Gh} (G:FG p nb k s gh) {i:Nat} {x:zc} (hx:s.Ms[i]? =some x):XG s ((i:Int)+1)=some (ua (zW s x),()):=by
 have hil:=(List.getElem?_eq_some_iff.1 hx).1
 have hml:=G.E.ml
 have hmt:=h.mt
 have W:=G.M i x hx
 have O:=G.E.X i x hx
 have hb:=(G.E.small.mu x (List.mem_of_getElem? hx)).2.2
 have e1:w64 ((i:Int)+1-1)=(i:Int):=by rw [zU (by omega) (by omega)];omega
 have hhl:(yi x.G).length≤1:=by unfold yi;split<;>simp
 rw [zq8,zj,if_neg (by omega),zj,if_neg (by omega),e1,xp hx,Option.bind_some,Xq (by omega),Option.bind_some]
 unfold zW zbC
 have nog:x.PC≠3∧x.PC≠37→uf x=some (false,()):=fun e=>by rw [zel,decide_eq_false e.1,decide_eq_false e.2];rfl
 have ysg:x.PC=3∨x.PC=37→uf x=some (true,()):=fun e=>by
  rw [zel]
  by_cases c:x.PC=3
  ·rw [decide_eq_true c];rfl
  ·rw [decide_eq_false c,decide_eq_true (e.resolve_left c)];rfl
 by_cases c33:x.PC=33
 ·obtain ⟨b1,b2⟩:=zuK G (O.b33 c33)
  have h36: ¬(36:Int)≤x.PC:=by omega
  rw [decide_eq_true c33,cond_true,b1,Option.bind_some,yp (by simp;omega),Option.bind_some,decide_eq_false h36,cond_false,nog (by omega),Option.bind_some,cond_false,zaH (by simp;omega),if_pos c33];rfl
 rw [decide_eq_false c33,cond_false,if_neg c33]
 by_cases c3:x.PC=3
 ·obtain ⟨v,v1,v2⟩:=znL x.G (W.p3 c3).1.ob.1
  have h36: ¬(36:Int)≤x.PC:=by omega
  rw [decide_eq_false h36,cond_false,ysg (.inl c3),Option.bind_some,cond_true,v1,Option.bind_some]
  dsimp only
  rw [v2,Option.bind_some,yp (by simp;omega),Option.bind_some,zaH (by simp;omega),if_neg (by omega),if_neg (by omega),if_pos c3];rfl
 by_cases c36:36≤x.PC∧x.PC≤38
 ·rw [decide_eq_true c36.1,cond_true,decide_eq_true c36.2,cond_true,yp (by simp;omega),Option.bind_some]
  by_cases c37:x.PC=37
  ·obtain ⟨v,v1,v2⟩:=znL x.G (W.p37 c37).1.ob.1
   rw [ysg (.inr c37),Option.bind_some,cond_true,v1,Option.bind_some]
   dsimp only
   rw [v2,Option.bind_some,yp (by simp;omega),Option.bind_some,zaH (by simp;omega),if_neg (by omega),if_pos c37]
   have ea:x.Batch++x.Obj::yi x.G=x.Batch++[x.Obj]++yi x.G:=by simp
   rw [ea];rfl
  ·rw [nog ⟨c3,c37⟩,Option.bind_some,cond_false,zaH (by simp;omega),if_pos (by omega)];rfl
 ·rw [if_neg (by omega),if_neg (by omega),if_neg c3,List.append_nil]
  by_cases h36:36≤x.PC
  ·have h38: ¬x.PC≤38:=fun e=>c36 ⟨h36,e⟩
   rw [decide_eq_true h36,cond_true,decide_eq_false h38,cond_false,nog (by omega),Option.bind_some,cond_false,zaH (show x.Batch.length<4294967296 by omega)];rfl
  ·rw [decide_eq_false h36,cond_false,nog (by omega),Option.bind_some,cond_false,zaH (show x.Batch.length<4294967296 by omega)];rfl
end
end Go.Pe.G
namespace Go.Pe.G
open Go.Pe
noncomputable section
def owG (g:zu):Int:=if g.Out=0∧(g.PC=1∨g.PC=2) then 1 else 0
def owW (x:zh):Int:=if x.PC=9 then 1 else if x.PC=6 then owG x.G else 0
def owX (x:zc):Int:=if x.PC=39 then 1 else if x.PC=3∨x.PC=37 then owG x.G else 0
theorem zBP (g:zu):0≤owG g∧owG g≤1:=by unfold owG;split<;>decide
theorem zx1 (x:zh):0≤owW x∧owW x≤1:=by
 unfold owW
 split
 ·decide
 split
 ·exact zBP _
 ·decide
theorem zyJ (x:zc):0≤owX x∧owX x≤1:=by
 unfold owX
 split
 ·decide
 split
 ·exact zBP _
 ·decide
theorem Z6 {g:zu} (h:g.Out≠0∨(g.PC≠1∧g.PC≠2)):owG g=0:=by unfold owG;rw [if_neg (by omega)]
theorem ztn {g:zu} (h:g.Out=0) (h2:g.PC=1∨g.PC=2):owG g=1:=by unfold owG;rw [if_pos ⟨h,h2⟩]
theorem zB4 (t:zo) (o:Int):((vu t o).2=false∧(vu t o).1=t)∨((vu t o).2=true∧¬(t.Marks|||bit o=t.Marks)∧(vu t o).1={t with Marks:=t.Marks|||bit o}):=by
 unfold vu
 split
 ·exact .inl ⟨rfl,rfl⟩
 split
 ·rename_i h _;exact .inr ⟨rfl,h,rfl⟩
 ·exact .inl ⟨rfl,rfl⟩
theorem zws {p:zb} {s:za} {gh:Gh} {g:zu} (G:GX p s gh g) (g0:g.Out=0) (hw:0≤s.Work∧s.Work≤4294970000) :
  ((zx s g).1.T=s.T∧(zx s g).1.Work=s.Work+owG (zx s g).2-owG g) ∨
  (¬(s.T.Marks|||bit g.Obj=s.T.Marks)∧(zx s g).1.T={s.T with Marks:=s.T.Marks|||bit g.Obj}∧(zx s g).1.Work=s.Work+owG (zx s g).2-owG g+1):=by
 have hpc:=G.pc
 have hmd:=G.md
 unfold zx
 rw [if_neg (by omega)]
 by_cases c7:g.PC=7
 ·rw [if_pos c7]
  unfold zcB;dsimp only
  left;refine ⟨rfl,?_⟩
  rw [Z6 (g:=g) (by omega),Z6 (by split<;>(dsimp only;omega))];omega
 rw [if_neg c7]
 by_cases c6:g.PC=6
 ·rw [if_pos c6]
  left;refine ⟨rfl,?_⟩
  rw [Z6 (g:=g) (by omega),Z6 (by show _∨((7:Int)≠1∧(7:Int)≠2);omega)]
  show s.Work=_;omega
 rw [if_neg c6]
 by_cases c5:g.PC=5
 ·rw [if_pos c5]
  unfold zk7 zho;dsimp only
  left;refine ⟨rfl,?_⟩
  rw [Z6 (g:=g) (by omega),Z6 (by (repeat' split)<;>(dsimp only;omega))];omega
 rw [if_neg c5]
 by_cases c4:g.PC=4
 ·rw [if_pos c4]
  left;refine ⟨rfl,?_⟩
  rw [Z6 (g:=g) (by omega),Z6 (by show _∨((5:Int)≠1∧(5:Int)≠2);omega)]
  show s.Work=_;omega
 rw [if_neg c4]
 by_cases c3:g.PC=3
 ·rw [if_pos c3]
  unfold zll zho;dsimp only
  left;refine ⟨rfl,?_⟩
  rw [Z6 (g:=g) (by omega),Z6 (by (repeat' split)<;>(dsimp only;omega))];omega
 rw [if_neg c3]
 by_cases c2:g.PC=2
 ·rw [if_pos c2]
  left;refine ⟨rfl,?_⟩
  rw [ztn g0 (.inr c2),Z6 (by show (1:Int)≠0∨_;omega)]
  show wc (s.Work-1)=_
  rw [xu (by omega) (by omega)];omega
 rw [if_neg c2]
 by_cases c1:g.PC=1
 ·rw [if_pos c1]
  unfold zk1;dsimp only
  rw [ztn g0 (.inl c1)]
  rcases zB4 s.T g.Obj with ⟨a,b⟩ | ⟨a,b,c⟩
  ·left
   refine ⟨b,?_⟩
   rw [if_pos a,ztn (by dsimp only;exact g0) (.inr rfl)];omega
  ·right
   refine ⟨b,c,?_⟩
   rw [if_neg (by rw [a];decide)]
   unfold zho
   rw [Z6 (by (repeat' split)<;>(dsimp only;omega))];omega
 rw [if_neg c1]
 left;refine ⟨rfl,?_⟩
 rw [Z6 (g:=g) (by omega),ztn (by dsimp only;exact g0) (.inl rfl)]
 show wc (s.Work+1)=_
 rw [xu (by omega) (by omega)];omega
theorem znB {t:zo} {o:Int} (h:wT t o=1):wJ t o≠t:=by
 have hb:=(WZ t o).1 h
 have hr:=ziE h
 unfold wJ
 rw [if_pos h]
 intro e
 have e:=congrArg zo.Black e
 exact hb.2 (by rw [←e];exact (wa _ hr o).2 (.inr rfl))
theorem zd5 {t:zo} {o:Int} (h: ¬(t.Marks|||bit o=t.Marks)):({t with Marks:=t.Marks|||bit o}:zo)≠t:=fun e=>h (congrArg zo.Marks e)
theorem zBv {p:zb} {nb:Nat} {s:za} {gh:Gh} {w:Int} {x:zh} (W:WX p s gh w x) (O:WOk p nb w x) (hw:0≤s.Work∧s.Work≤4294970000) (h8:x.PC=8→wT s.T x.Obj=1) {N C:List Int}
  (hT:(N=[]∧C=[]∧(zp s w x).1.T=s.T)∨(N=[x.G.Obj]∧C=[]∧x.PC=6∧¬(s.T.Marks|||bit x.G.Obj=s.T.Marks)∧(zp s w x).1.T={s.T with Marks:=s.T.Marks|||bit x.G.Obj})∨(N=[]∧C=[x.Obj]∧x.PC=8∧(zp s w x).1.T=wJ s.T x.Obj)) :
  (zp s w x).1.Work=s.Work+owW (zp s w x).2-owW x+(N.length:Int)-(C.length:Int):=by
 have hpc:=O.pc
 revert hT
 have ob: ∀y:zh,owW (VV s.P w y)=0:=fun y=>rfl
 have ol: ∀y:zh,owW (Ym s.P w y)=0:=fun y=>by unfold Ym;split<;>rfl
 have quiet: ∀ {t:za} {y:zh},(N=[]∧C=[]∧t.T=s.T)∨(N=[x.G.Obj]∧C=[]∧x.PC=6∧¬(s.T.Marks|||bit x.G.Obj=s.T.Marks)∧t.T={s.T with Marks:=s.T.Marks|||bit x.G.Obj})∨(N=[]∧C=[x.Obj]∧x.PC=8∧t.T=wJ s.T x.Obj) →
   x.PC≠6→x.PC≠8→t.Work=s.Work+owW y-owW x→t.Work=s.Work+owW y-owW x+(N.length:Int)-(C.length:Int):=by
  rintro t y (⟨e1,e2,_⟩ | ⟨_,_,e,_⟩ | ⟨_,_,e,_⟩) h1 h2 h
  ·rw [e1,e2];simp only [List.length_nil];omega
  ·omega
  ·omega
 have o0:x.PC≠9→x.PC≠6→owW x=0:=fun h1 h2=>by unfold owW;rw [if_neg h1,if_neg h2]
 unfold zp
 split
 ·rename_i c
  intro hT
  refine quiet hT (by omega) (by omega) ?_
  rw [o0 (by omega) (by omega)]
  show s.Work=_
  dsimp only
  split
  ·show s.Work=s.Work+0-0;omega
  split
  ·rw [ol];omega
  ·rw [show owW {x with D:=(zS s.M x.D).2}=owW x from rfl,o0 (by omega) (by omega)];omega
 split
 ·intro hT
  refine quiet hT (by omega) (by omega) ?_
  rw [o0 (by omega) (by omega)]
  show s.Work=_
  dsimp only
  split
  ·rw [show ∀b c,owW {x with C:=c,Bin:=b,PC:=3}=0 from fun _ _=>rfl];omega
  split
  ·rw [ob];omega
  ·rw [show owW {x with C:=(zn s.M x.C).2}=owW x from rfl,o0 (by omega) (by omega)];omega
 split
 ·intro hT
  refine quiet hT (by omega) (by omega) ?_
  rw [o0 (by omega) (by omega)]
  show s.Work=s.Work+0-0;omega
 split
 ·intro hT
  refine quiet hT (by omega) (by omega) ?_
  rw [o0 (by omega) (by omega)]
  show s.Work=_
  dsimp only
  split
  ·rw [show ∀c,owW {x with PC:=7,C:=c,Bin:=0}=0 from fun _=>rfl];omega
  ·rw [show owW {x with C:=(zn s.M x.C).2}=owW x from rfl,o0 (by omega) (by omega)];omega
 split
 ·intro hT
  refine quiet hT (by omega) (by omega) ?_
  rw [o0 (by omega) (by omega)]
  dsimp only
  split
  ·have: ∀y,owW {x with Slot:=y,PC:=onW s y}=0:=fun y=>by
    unfold owW
    rcases zj7 s y with e | e<;>rw [if_neg (by dsimp only;omega),if_neg (by dsimp only;omega)]
   rw [this];omega
  ·rw [show ∀y v,owW {x with Slot:=y,PC:=6,G:=ZI 1 v w}=0 from fun _ _=>rfl];omega
 split
 ·rename_i c
  intro hT
  obtain ⟨G,gm,gw,g0⟩:=W.p6 c
  have e1:owW x=owG x.G:=by unfold owW;rw [if_neg (by omega),if_pos c]
  have e2:owW (if (zx s x.G).2.Out=1 then {x with G:=(zx s x.G).2,PC:=onW s x.Slot} else {x with G:=(zx s x.G).2})=owG (zx s x.G).2:=by
   split
   ·rename_i o
    rw [Z6 (.inl (by omega))]
    unfold owW
    rcases zj7 s x.Slot with e | e<;>rw [if_neg (by dsimp only;omega),if_neg (by dsimp only;omega)]
   ·unfold owW;rw [if_neg (by dsimp only;omega),if_pos c]
  dsimp only at hT ⊢
  rw [e1,e2]
  rcases zws G g0 hw with ⟨a,b⟩ | ⟨a,b,d⟩
  ·rcases hT with ⟨n1,n2,_⟩ | ⟨_,_,_,n3,n4⟩ | ⟨_,_,e,_⟩
   ·rw [n1,n2,b];simp only [List.length_nil];omega
   ·exact absurd (n4.symm.trans a) (zd5 n3)
   ·omega
  ·rcases hT with ⟨n1,n2,n3⟩ | ⟨n1,n2,_,n3,n4⟩ | ⟨_,_,e,_⟩
   ·exact absurd (b.symm.trans n3) (zd5 a)
   ·rw [n1,n2,d];simp only [List.length_nil,List.length_cons];omega
   ·omega
 split
 ·intro hT
  refine quiet hT (by omega) (by omega) ?_
  rw [o0 (by omega) (by omega)]
  dsimp only
  split
  ·rw [ob];omega
  ·rw [show ∀o l,owW {x with PC:=5,Obj:=o,Slot:=0,Batch:=l}=0 from fun _ _=>rfl];omega
 split
 ·rename_i c
  intro hT
  have e0:owW x=0:=o0 (by omega) (by omega)
  rw [e0]
  rcases hT with ⟨_,_,e⟩ | ⟨_,_,e,_⟩ | ⟨n1,n2,_,_⟩
  ·exact absurd e (znB (h8 c))
  ·omega
  ·rw [n1,n2]
   show s.Work=s.Work+1-0+0-1
   omega
 split
 ·rename_i c
  intro hT
  refine quiet hT (by omega) (by omega) ?_
  have e1:owW x=1:=by unfold owW;rw [if_pos c]
  rw [e1]
  show wc (s.Work-1)=s.Work+0-1
  rw [xu (by omega) (by omega)];omega
 ·intro hT;omega
theorem zCO {p:zb} {nb:Nat} {s:za} {gh:Gh} {m:Int} {x:zc} (W:MX p s gh x) (O:XOk p nb m x) (hw:0≤s.Work∧s.Work≤4294970000) (h8:x.PC=38→wT s.T x.Obj=1) {N C:List Int}
  (hT:(N=[]∧C=[]∧(zA s m x).1.T=s.T)∨(N=[x.G.Obj]∧C=[]∧(x.PC=3∨x.PC=37)∧¬(s.T.Marks|||bit x.G.Obj=s.T.Marks)∧(zA s m x).1.T={s.T with Marks:=s.T.Marks|||bit x.G.Obj})∨(N=[]∧C=[x.Obj]∧x.PC=38∧(zA s m x).1.T=wJ s.T x.Obj) ∨
   (N=[]∧C=[]∧x.PC=30∧Xm s.H s.P.Most=true∧(zA s m x).1.H=Z4 s.H∧(zA s m x).1.T=X7 s.T (wc (s.H.Objs.length+1)))) :
  (zA s m x).1.Work=s.Work+owX (zA s m x).2-owX x+(N.length:Int)-(C.length:Int):=by
 have hpc:=O.pc
 have hrt:=O.ret
 have calm: ∀ {r:za×zc},(N=[]∧C=[]∧r.1.T=s.T)∨(N=[x.G.Obj]∧C=[]∧(x.PC=3∨x.PC=37)∧¬(s.T.Marks|||bit x.G.Obj=s.T.Marks)∧r.1.T={s.T with Marks:=s.T.Marks|||bit x.G.Obj})∨(N=[]∧C=[x.Obj]∧x.PC=38∧r.1.T=wJ s.T x.Obj) ∨
   (N=[]∧C=[]∧x.PC=30∧Xm s.H s.P.Most=true∧r.1.H=Z4 s.H∧r.1.T=X7 s.T (wc (s.H.Objs.length+1))) →
   x.PC≠3→x.PC≠37→x.PC≠38→r.1.Work=s.Work+owX r.2-owX x→r.1.Work=s.Work+owX r.2-owX x+(N.length:Int)-(C.length:Int):=by
  rintro r (⟨e1,e2,_⟩ | ⟨_,_,e,_⟩ | ⟨_,_,e,_⟩ | ⟨e1,e2,_⟩) h1 h2 h3 h
  ·rw [e1,e2];simp only [List.length_nil];omega
  ·omega
  ·omega
  ·rw [e1,e2];simp only [List.length_nil];omega
 have o0: ∀ {y:zc},y.PC≠39→y.PC≠3→y.PC≠37→owX y=0:=fun h1 h2 h3=>by unfold owX;rw [if_neg h1,if_neg (by omega)]
 have og: ∀(y:zc) (k a b:Int),owX {y with PC:=3,G:=ZI k a b}=0:=fun y k a b=>by unfold owX;rw [if_neg (by dsimp only;omega),if_pos (.inl rfl)];exact Z6 (.inr ⟨by show (0:Int)≠1;decide,by show (0:Int)≠2;decide⟩)
 have gq: ∀(N C:List Int) (G:GX p s gh x.G) (g0:x.G.Out=0) (hT:(N=[]∧C=[]∧(zx s x.G).1.T=s.T)∨(N=[x.G.Obj]∧C=[]∧(x.PC=3∨x.PC=37)∧¬(s.T.Marks|||bit x.G.Obj=s.T.Marks)∧(zx s x.G).1.T={s.T with Marks:=s.T.Marks|||bit x.G.Obj})),
   (zx s x.G).1.Work=s.Work+owG (zx s x.G).2-owG x.G+(N.length:Int)-(C.length:Int):=by
  intro N C G g0 hT
  rcases zws G g0 hw with ⟨a,b⟩ | ⟨a,b,d⟩
  ·rcases hT with ⟨n1,n2,_⟩ | ⟨_,_,_,n3,n4⟩
   ·rw [n1,n2,b];simp only [List.length_nil];omega
   ·exact absurd (n4.symm.trans a) (zd5 n3)
  ·rcases hT with ⟨n1,n2,n3⟩ | ⟨n1,n2,_,n3,n4⟩
   ·exact absurd (b.symm.trans n3) (zd5 a)
   ·rw [n1,n2,d];simp only [List.length_nil,List.length_cons];omega
 revert hT
 refine un (motive:=fun r=>((N=[]∧C=[]∧r.1.T=s.T)∨(N=[x.G.Obj]∧C=[]∧(x.PC=3∨x.PC=37)∧¬(s.T.Marks|||bit x.G.Obj=s.T.Marks)∧r.1.T={s.T with Marks:=s.T.Marks|||bit x.G.Obj})∨(N=[]∧C=[x.Obj]∧x.PC=38∧r.1.T=wJ s.T x.Obj) ∨
   (N=[]∧C=[]∧x.PC=30∧Xm s.H s.P.Most=true∧r.1.H=Z4 s.H∧r.1.T=X7 s.T (wc (s.H.Objs.length+1)))) →
   r.1.Work=s.Work+owX r.2-owX x+(N.length:Int)-(C.length:Int)) s m x ?_ ?_ ?_ ?_ ?_ ?_ ?_ ?_ ?_ ?_ ?_ ?_ ?_ ?_ ?_ ?_ ?_ ?_ ?_ ?_
 ·intro c hT
  refine calm hT (by omega) (by omega) (by omega) ?_
  rw [o0 (y:=x) (by omega) (by omega) (by omega)]
  unfold mu0 zdv
  repeat' split
  all_goals (rw [o0 (by (try dsimp only [setM]);omega) (by (try dsimp only [setM]);omega) (by (try dsimp only [setM]);omega)];dsimp only;omega)
 ·intro c hT
  refine calm hT (by omega) (by omega) (by omega) ?_
  rw [o0 (y:=x) (by omega) (by omega) (by omega)]
  unfold mu1;dsimp only
  split
  ·have:=hrt (.inl c)
   rw [o0 (by dsimp only;omega) (by dsimp only;omega) (by dsimp only;omega)];omega
  ·have e: ∀l,owX {x with PC:=3,Buf:=l,G:=ZI 2 (x.Buf.getD (x.Buf.length-1) 0) m}=0:=fun l=>og {x with Buf:=l} 2 _ m
   rw [e];omega
 ·intro c hT
  refine calm hT (by omega) (by omega) (by omega) ?_
  rw [o0 (y:=x) (by omega) (by omega) (by omega)]
  show s.Work=s.Work+0-0;omega
 ·intro c hT
  obtain ⟨G,gm,g0⟩:=W.p3 c
  have e1:owX x=owG x.G:=by unfold owX;rw [if_neg (by omega),if_pos (.inl c)]
  unfold mu3 at hT ⊢
  dsimp only at hT ⊢
  have e2:owX (if (zx s x.G).2.Out=1 then {x with PC:=1,G:=(zx s x.G).2} else {x with G:=(zx s x.G).2})=owG (zx s x.G).2:=by
   split
   ·rename_i o
    rw [Z6 (.inl (by omega)),o0 (by dsimp only;omega) (by dsimp only;omega) (by dsimp only;omega)]
   ·unfold owX;rw [if_neg (by dsimp only;omega),if_pos (.inl c)]
  rw [e1,e2]
  refine gq N C G g0 ?_
  rcases hT with h | h | ⟨_,_,e,_⟩ | ⟨_,_,e,_⟩
  ·exact .inl h
  ·exact .inr h
  ·omega
  ·omega
 ·intro c hT
  refine calm hT (by omega) (by omega) (by omega) ?_
  rw [o0 (y:=x) (by omega) (by omega) (by omega)]
  show s.Work=s.Work+0-0;omega
 ·intro c hT
  refine calm hT (by omega) (by omega) (by omega) ?_
  rw [o0 (y:=x) (by omega) (by omega) (by omega)]
  unfold zl4;dsimp only
  split<;>(rw [o0 (by dsimp only [VA];omega) (by dsimp only [VA];omega) (by dsimp only [VA];omega)];omega)
 ·intro c hT
  refine calm hT (by omega) (by omega) (by omega) ?_
  rw [o0 (y:=x) (by omega) (by omega) (by omega)]
  unfold zl7;dsimp only
  split<;>(rw [o0 (by dsimp only;omega) (by dsimp only;omega) (by dsimp only;omega)];omega)
 ·intro c hT
  refine calm hT (by omega) (by omega) (by omega) ?_
  rw [o0 (y:=x) (by omega) (by omega) (by omega)]
  unfold zlX;dsimp only
  split<;>(rw [o0 (by dsimp only;omega) (by dsimp only;omega) (by dsimp only;omega)];omega)
 ·intro c hT
  refine calm hT (by omega) (by omega) (by omega) ?_
  rw [o0 (y:=x) (by omega) (by omega) (by omega)]
  show s.Work=s.Work+0-0;omega
 ·intro c hT
  refine calm hT (by omega) (by omega) (by omega) ?_
  rw [o0 (y:=x) (by omega) (by omega) (by omega)]
  unfold zhc
  split
  ·split
   ·show s.Work=s.Work+0-0;omega
   ·show s.Work=s.Work+0-0;omega
  ·show s.Work=s.Work+0-0;omega
 ·intro c hT
  refine calm hT (by omega) (by omega) (by omega) ?_
  rw [o0 (y:=x) (by omega) (by omega) (by omega)]
  unfold zmc;dsimp only
  split<;>(rw [o0 (by dsimp only;omega) (by dsimp only;omega) (by dsimp only;omega)];omega)
 ·intro c hT
  refine calm hT (by omega) (by omega) (by omega) ?_
  rw [o0 (y:=x) (by omega) (by omega) (by omega)]
  unfold zlM;dsimp only
  split
  ·rw [o0 (by dsimp only;omega) (by dsimp only;omega) (by dsimp only;omega)];omega
  split<;>(rw [o0 (by dsimp only;omega) (by dsimp only;omega) (by dsimp only;omega)];omega)
 ·intro c hT
  refine calm hT (by omega) (by omega) (by omega) ?_
  rw [o0 (y:=x) (by omega) (by omega) (by omega)]
  show s.Work=s.Work+0-0;omega
 ·intro c hT
  refine calm hT (by omega) (by omega) (by omega) ?_
  rw [o0 (y:=x) (by omega) (by omega) (by omega)]
  unfold zmb;dsimp only
  split<;>(rw [o0 (by dsimp only;omega) (by dsimp only;omega) (by dsimp only;omega)];omega)
 ·intro c hT
  refine calm hT (by omega) (by omega) (by omega) ?_
  rw [o0 (y:=x) (by omega) (by omega) (by omega)]
  unfold zlJ;dsimp only
  split<;>(rw [o0 (by dsimp only;omega) (by dsimp only;omega) (by dsimp only;omega)];omega)
 ·intro c hT
  refine calm hT (by omega) (by omega) (by omega) ?_
  rw [o0 (y:=x) (by omega) (by omega) (by omega)]
  unfold zl8;dsimp only
  split
  ·have:=zgu s (wc (x.Slot+1))
   rw [o0 (by dsimp only;omega) (by dsimp only;omega) (by dsimp only;omega)];omega
  ·have e: ∀y v,owX {x with Slot:=y,PC:=37,G:=ZI 3 v m}=0:=fun y v=>by unfold owX;rw [if_neg (by dsimp only;omega),if_pos (.inr rfl)];exact Z6 (.inr ⟨by show (0:Int)≠1;decide,by show (0:Int)≠2;decide⟩)
   rw [e];omega
 ·intro c hT
  obtain ⟨G,gm,g0⟩:=W.p37 c
  have e1:owX x=owG x.G:=by unfold owX;rw [if_neg (by omega),if_pos (.inr c)]
  unfold zi0 at hT ⊢
  dsimp only at hT ⊢
  have e2:owX (if (zx s x.G).2.Out=1 then {x with G:=(zx s x.G).2,PC:=onM s x.Slot} else {x with G:=(zx s x.G).2})=owG (zx s x.G).2:=by
   split
   ·rename_i o
    have:=zgu s x.Slot
    rw [Z6 (.inl (by omega)),o0 (by dsimp only;omega) (by dsimp only;omega) (by dsimp only;omega)]
   ·unfold owX;rw [if_neg (by dsimp only;omega),if_pos (.inr c)]
  rw [e1,e2]
  refine gq N C G g0 ?_
  rcases hT with h | h | ⟨_,_,e,_⟩ | ⟨_,_,e,_⟩
  ·exact .inl h
  ·exact .inr h
  ·omega
  ·omega
 ·intro c hT
  rw [o0 (y:=x) (by omega) (by omega) (by omega)]
  rcases hT with ⟨_,_,e⟩ | ⟨_,_,e,_⟩ | ⟨n1,n2,_,_⟩ | ⟨_,_,e,_⟩
  ·exact absurd e (znB (h8 c))
  ·omega
  ·rw [n1,n2]
   show s.Work=s.Work+1-0+0-1
   omega
  ·omega
 ·intro c hT
  refine calm hT (by omega) (by omega) (by omega) ?_
  have e1:owX x=1:=by unfold owX;rw [if_pos c]
  rw [e1]
  show wc (s.Work-1)=s.Work+0-1
  rw [xu (by omega) (by omega)];omega
 ·intro hT
  rcases hT with ⟨n1,n2,_⟩ | ⟨_,_,_,n3,n4⟩ | ⟨n1,n2,c,e⟩ | ⟨n1,n2,_⟩
  ·rw [n1,n2];simp only [List.length_nil];omega
  ·exact absurd n4.symm (zd5 n3)
  ·exact absurd e.symm (znB (h8 c))
  ·rw [n1,n2];simp only [List.length_nil];omega
end
end Go.Pe.G
namespace Go.Pe.G
open Go.Pe
noncomputable section
def U3 (s:za):Int:=(s.Ws.map owW).sum+(s.Ms.map owX).sum
theorem zxI: ∀ {l:List Int},(∀v∈l,0≤v)→0≤l.sum
 | [],_=>by simp
 | a::l,h=>by
  have:=zxI (l:=l) (fun v hv=>h v (List.mem_cons_of_mem _ hv))
  have:=h a (List.mem_cons_self ..)
  rw [List.sum_cons];omega
theorem zFq (s:za):0≤U3 s:=by
 have h1:0≤(s.Ws.map owW).sum:=zxI (fun v hv=>by obtain ⟨x,_,rfl⟩:=List.mem_map.1 hv;exact (zx1 x).1)
 have h2:0≤(s.Ms.map owX).sum:=zxI (fun v hv=>by obtain ⟨x,_,rfl⟩:=List.mem_map.1 hv;exact (zyJ x).1)
 unfold U3;omega
theorem zyK {α:Type} {f:α→Int} {l:List α} {i:Nat} {x:α} (h:l[i]? =some x) (y:α):((l.set i y).map f).sum=(l.map f).sum-f x+f y:=by
 have hi:=(List.getElem?_eq_some_iff.1 h).1
 rw [List.map_set,zqu _ _ _ (by simpa using hi)]
 rw [List.getD_eq_getElem?_getD,List.getElem?_map,h]
 rfl
structure EG (p:zb) (nb k:Nat) (s:za) (gh:Gh):Prop where
 G:FG p nb k s gh
 wk:s.Work=((vP p s gh).length:Int)+U3 s
 le:s.Work≤2*(k:Int)+100
theorem EG.work_nn {p:zb} {nb k:Nat} {s:za} {gh:Gh} (I:EG p nb k s gh):0≤s.Work:=by
 have:=I.wk;have:=zFq s;omega
theorem zBy (s:za):({xy s with Epoch:=s.Epoch,Flag:=s.Flag,Done:=s.Done,Restarts:=s.Restarts,D:=s.D}:za)=s:=by
 unfold xy
 repeat' split
 all_goals rfl
theorem FG.more {p:zb} {nb k:Nat} {s:za} {gh:Gh} (G:FG p nb k s gh):FG p nb (k+1) s gh:=⟨G.E,G.X.quiet G.E.S rfl,G.W,G.M,G.B,G.mrk,G.wob,G.buf,G.bk,G.ne⟩
theorem EG.more {p:zb} {nb k:Nat} {s:za} {gh:Gh} (I:EG p nb k s gh):EG p nb (k+1) s gh:=⟨I.G.more,I.wk,by have:=I.le;omega⟩
theorem EG.det {p:zb} (hp:zB p) {nb k:Nat} {s:za} {gh:Gh} (I:EG p nb k s gh):EG p nb (k+1) (xy s) gh∧ziI s (xy s):=by
 have hd:=zBy s
 have eM:(xy s).M=s.M:=by conv=>rhs;rw [←hd]
 have eB:(xy s).Bins=s.Bins:=by conv=>rhs;rw [←hd]
 have eT:(xy s).T=s.T:=by conv=>rhs;rw [←hd]
 have eH:(xy s).H=s.H:=by conv=>rhs;rw [←hd]
 have eW:(xy s).Ws=s.Ws:=by conv=>rhs;rw [←hd]
 have eX:(xy s).Ms=s.Ms:=by conv=>rhs;rw [←hd]
 have eK:(xy s).Work=s.Work:=by conv=>rhs;rw [←hd]
 have e:vP p (xy s) gh=vP p s gh:=by
  unfold vP
  rw [eW,eX,uR eB,xB (fun x _=>zcd (x:=x) eM eB),xB (fun x _=>zfX (x:=x) eB)]
 have e2:U3 (xy s)=U3 s:=by unfold U3;rw [eW,eX]
 exact ⟨⟨I.G.det hp hd,by rw [e,e2,eK];exact I.wk,by rw [eK];have:=I.le;omega⟩,.inl ⟨eT,by rw [eH]⟩⟩
theorem EG.worker {p:zb} (hp:zB p) {nb k:Nat} {s:za} {gh:Gh} (hk:k<2147480000) (I:EG p nb k s gh) {w:Int} (hw:1≤w∧w≤p.Workers) (hd:s.Done=false): ∃gh',EG p nb (k+1) (yz s w) gh'∧ziI s (yz s w):=by
 obtain ⟨gh',G',F,x,hx,N,C,hbag,hT⟩:=I.G.worker hp (by omega) hw hd
 have hwl:=I.G.E.wl
 have ei:(((w-1).toNat:Nat):Int)+1=w:=by omega
 have hWX:=I.G.W _ x hx
 have hWO:=I.G.E.W _ x hx
 rw [ei] at hWX hWO
 have h8:x.PC=8→wT s.T x.Obj=1:=fun e=>I.G.grey (zFC hx (by unfold zJ;rw [UN (.inr e)];simp))
 have hnn:=I.work_nn
 have hle:=I.le
 have hW:=zBv hWX hWO (by omega) h8 hT
 have hlen:=hbag.length_eq
 rw [List.length_append,List.length_append] at hlen
 have eS:yz s w={(zp s w x).1 with Ws:=s.Ws.set (w-1).toNat (zp s w x).2}:=by
  unfold yz
  rw [if_neg (by rw [hd];rintro (e | e | e)<;>first | cases e | omega),hx]
 have eK:(yz s w).Work=(zp s w x).1.Work:=by rw [eS]
 have eX:(yz s w).Ms=s.Ms:=by rw [eS];show (zp s w x).1.Ms=_;rw [zt8 hWO]
 have eW:(yz s w).Ws=s.Ws.set (w-1).toNat (zp s w x).2:=by rw [eS]
 have ho:U3 (yz s w)=U3 s-owW x+owW (zp s w x).2:=by
  unfold U3
  rw [eX,eW,zyK hx];omega
 have hwk:=I.wk
 have hN:N.length≤1:=by rcases hT with ⟨e,_⟩ | ⟨e,_⟩ | ⟨e,_⟩<;>rw [e]<;>simp
 have o1:=zx1 x
 have o2:=zx1 (zp s w x).2
 refine ⟨gh',⟨G',by rw [eK,hW,ho];omega,?_⟩,F⟩
 rw [eK,hW]
 omega
theorem EG.mutator {p:zb} (hp:zB p) {nb k:Nat} {s:za} {gh:Gh} (hk:k<2147480000) (I:EG p nb k s gh) {m:Int} (hm:1≤m∧m≤p.Mutators) (hd:s.Done=false): ∃gh',EG p nb (k+1) (yG s m) gh'∧ziI s (yG s m):=by
 obtain ⟨gh',G',F,x,hx,N,C,hbag,hT⟩:=I.G.mutator hp (by omega) hm hd
 have hml:=I.G.E.ml
 have ei:(((m-1).toNat:Nat):Int)+1=m:=by omega
 have hMX:=I.G.M _ x hx
 have hXO:=I.G.E.X _ x hx
 rw [ei] at hXO
 have h8:x.PC=38→wT s.T x.Obj=1:=fun e=>I.G.grey (zFi hx (by unfold zW;rw [zbX (.inr e)];simp))
 have hnn:=I.work_nn
 have hle:=I.le
 have hW:=zCO (m:=m) hMX hXO (by omega) h8 hT
 have hlen:=hbag.length_eq
 rw [List.length_append,List.length_append] at hlen
 have eS:yG s m={(zA s m x).1 with Ms:=s.Ms.set (m-1).toNat (zA s m x).2}:=by
  unfold yG
  rw [if_neg (by rw [hd];rintro (e | e | e)<;>first | cases e | omega),hx]
 have eK:(yG s m).Work=(zA s m x).1.Work:=by rw [eS]
 have eW:(yG s m).Ws=s.Ws:=by rw [eS];show (zA s m x).1.Ws=_;rw [zwf]
 have eX:(yG s m).Ms=s.Ms.set (m-1).toNat (zA s m x).2:=by rw [eS]
 have ho:U3 (yG s m)=U3 s-owX x+owX (zA s m x).2:=by
  unfold U3
  rw [eX,eW,zyK hx];omega
 have hwk:=I.wk
 have hN:N.length≤1:=by rcases hT with ⟨e,_⟩ | ⟨e,_⟩ | ⟨e,_⟩ | ⟨e,_⟩<;>rw [e]<;>simp
 have o1:=zyJ x
 have o2:=zyJ (zA s m x).2
 refine ⟨gh',⟨G',by rw [eK,hW,ho];omega,?_⟩,F⟩
 rw [eK,hW]
 omega
theorem zCm {s:za} (hd:s.Done=true) (j:Int):zh8 s j=s:=by
 unfold zh8
 split
 ·unfold xy;rw [if_pos hd]
 split
 ·unfold yz;rw [if_pos (.inl hd)]
 ·unfold yG;rw [if_pos (.inl hd)]
theorem EG.next {p:zb} (hp:zB p) {nb k:Nat} {s:za} {gh:Gh} (hk:k<2147480000) (I:EG p nb k s gh) (j:Int): ∃gh',EG p nb (k+1) (zh8 s j) gh'∧ziI s (zh8 s j):=by
 cases hd:s.Done with
 | true=>rw [zCm hd];exact ⟨gh,I.more,.inl ⟨rfl,rfl⟩⟩
 | false =>
  have hwl:=I.G.E.wl
  have hml:=I.G.E.ml
  unfold zh8
  split
  ·exact ⟨gh,I.det hp⟩
  split
  ·by_cases h1:1≤j
   ·exact I.worker hp hk (by omega) hd
   ·have:yz s j=s:=by unfold yz;rw [if_pos (.inr (.inl (by omega)))]
    rw [this];exact ⟨gh,I.more,.inl ⟨rfl,rfl⟩⟩
  ·by_cases h1:1≤j-(s.Ws.length:Int)∧j-(s.Ws.length:Int)≤(s.Ms.length:Int)
   ·exact I.mutator hp hk (by omega) hd
   ·have:yG s (j-(s.Ws.length:Int))=s:=by unfold yG;rw [if_pos (by omega)]
    rw [this];exact ⟨gh,I.more,.inl ⟨rfl,rfl⟩⟩
end
end Go.Pe.G
namespace Go.Pe.G
open Go.Pe
noncomputable section
theorem zrB: ∀(n:Nat) (l:List Int),l.Nodup→(∀o∈l,1≤o∧o≤(n:Int))→l.length≤n
 | 0,[],_,_=>Nat.le_refl _
 | 0,a::l,_,h=>by have:=h a (by simp);omega
 | n+1,l,hd,h=>by
  have ih:=zrB n (l.erase ((n+1:Nat):Int)) (hd.erase _) (fun o ho=>by
   have:=(hd.mem_erase_iff).1 ho
   have h2:=h o this.2
   have h3:=this.1
   omega)
  rw [List.length_erase] at ih
  split at ih<;>omega
end
end Go.Pe.G
namespace Go.Pe.G
open Go.Pe
noncomputable section
theorem zzB {p:zb} (h:zB p) {nb k:Nat} {s:za} {gh:Gh} {own:List Int} (X:SX p nb s gh own k) (hnb:nb≤50) {N:Int} (hN:(nb:Int)≤N) (hN2:N<1000):zjs s.M (zZ p) (zD p) N=some (gh.F,()):=by
 have hF:=Zw h
 have hE:=wo h
 have hl:gh.F.length<nb∨gh.F.length=0:=by
  have:=X.L.all.length_eq
  simp [zos] at this
  omega
 rw [ztC,zim,Option.bind_some,zds,Option.bind_some]
 obtain ⟨o,e,ho⟩:=xU (f:=zdP) (fun a=>∃x pre rest,gh.F=pre++rest∧a=(s.M,zD p,N,x,pre,())∧Chn s.M (zD p) nb x rest) (fun a=>gh.F.length-a.2.2.2.2.1.length) (fun o=>o= .brk (gh.F,())) (by
  rintro _ ⟨x,pre,rest,e,rfl,c⟩
  rw [zpq,yq]
  cases rest with
  | nil =>
   have hx:x=0:=c
   rw [if_pos hx]
   exact ⟨_,rfl,by rw [e,List.append_nil]⟩
  | cons y l =>
   obtain ⟨c1,c2,c3,c4⟩:=c
   have hlen:gh.F.length=pre.length+(l.length+1):=by rw [e,List.length_append,List.length_cons]
   rw [if_neg (by omega),zj,if_pos (show (pre.length:Int)<(bif decide ((1000:Int)<N) then 1000 else N) by rw [zj,if_neg (by omega)];omega),yp (by simp;omega),Option.bind_some,zU (by omega) (by omega),zim,Option.bind_some]
   refine ⟨_,rfl,⟨_,pre++[x],l,by rw [e,c1];simp,rfl,?_⟩,?_⟩
   ·rw [c1];exact c4
   ·show gh.F.length-(pre++[x]).length<gh.F.length-pre.length
    rw [List.length_append,List.length_singleton];omega) (s.M,zD p,N,yf (ld s.M (zZ p)),([]:List Int),()) ⟨_,[],gh.F,rfl,rfl,X.L.cF⟩ (by show gh.F.length-0<18446744073709551616;omega)
 subst ho
 exact congrArg (fun o=>Option.bind o _) e
theorem zvV {α β:Type} (f:α→List β): ∀(l:List α) (a:List β),l.foldl (fun r x=>r++f x) a=a++l.flatMap f
 | [],a=>by simp
 | x::l,a=>by rw [List.foldl_cons,zvV f l,List.flatMap_cons,List.append_assoc]
theorem znR {p:zb} (h:zB p) {k:Nat} {s:za} {gh:Gh} (G:FG p (zQ p+1) k s gh):ZN s=some (ua (gh.F.flatMap (yu s)),())∧(gh.F.flatMap (yu s)).length≤9:=by
 have hP:=G.E.S.P
 have hbl:=G.E.S.bins
 have hbp:=zcu h
 have hN:=G.E.H.n
 have hn:=h.n
 have hmo:=h.most
 have hl9:(gh.F.flatMap (yu s)).length≤9:=by
  have hs:(gh.F.flatMap (yu s)).Sublist (vP p s gh):=(List.sublist_append_left _ _).trans (List.sublist_append_left _ _)
  have:=zrB s.H.Objs.length _ (G.B.nd.sublist hs) (fun o ho=>by
   have ho:=hs.subset ho
   exact ⟨(ziE ((G.B.gr o).1 ho)).1,G.mrk o ((WZ _ _).1 ((G.B.gr o).1 ho)).1⟩)
  omega
 refine ⟨?_,hl9⟩
 have hF:gh.F.length<1000:=by
  have:=G.X.L.all.length_eq
  simp [zos] at this
  omega
 have hnode: ∀y∈gh.F,1≤y∧y<((zQ p+1:Nat):Int):=fun y hy=>zpw.1 (G.X.L.all.subset (List.mem_append_left _ (List.mem_append_left _ hy)))
 rw [zun,zbc,Option.bind_some,UC,Option.bind_some,hP]
 dsimp only
 rw [zzB h G.X (by omega) (by omega) (by omega),Option.bind_some]
 dsimp only
 obtain ⟨e,_⟩:=Zo (f:=W1) (fun j r=>((gh.F.length:Int),j,s,r,gh.F,())) (fun r=>(r,())) gh.F (by omega) (fun r y=>r++yu s y) (fun i r=>r=(gh.F.take i).flatMap (yu s)) (s:=[]) rfl
  (fun i r y hy hi hr=>by
   have hm:=List.mem_of_getElem? hy
   obtain ⟨b1,b2⟩:=zuK G (hnode y hm)
   have hsub:r.length+(yu s y).length≤9:=by
    have h1:r++yu s y=(gh.F.take (i+1)).flatMap (yu s):=by rw [hr,List.take_add_one,hy];simp
    have h2:((gh.F.take (i+1)).flatMap (yu s)).Sublist (gh.F.flatMap (yu s)):=by
     conv=>rhs;rw [←List.take_append_drop (i+1) gh.F,List.flatMap_append]
     exact List.sublist_append_left _ _
    have h3:=h2.length_le
    rw [←List.length_append,h1];omega
   have hb2:=(hnode y hm).2
   refine ⟨by rw [hr,List.take_add_one,hy];simp,?_⟩
   show W1 ((gh.F.length:Int),(i:Int),s,r,gh.F,())=_
   rw [zgx,zj,if_pos (by omega),wP (by omega) (by omega),Option.bind_some,Int.toNat_natCast,hy,Option.bind_some,zj,if_pos (by omega),b1,Option.bind_some,yp (by simp;omega),Option.bind_some,yw (by omega)])
  (fun r hr=>by
   show W1 ((gh.F.length:Int),(gh.F.length:Int),s,r,gh.F,())=_
   rw [zgx,zj,if_neg (by omega)])
 rw [zvV,List.nil_append] at e
 rw [e,Option.bind_some]
 dsimp only
 rw [zaH (by omega)];rfl
theorem zAa {p:zb} (h:zB p) {nb k:Nat} {s:za} {gh:Gh} (G:FG p nb k s gh): ∀(n i:Nat),i+n=s.Ws.length→zvt s n (i:Int)=some ((List.range' i n).map fun j:Nat=>(s.Ws[j]?).elim [] fun x=>ua (zJ s x++gh.D ((j:Int)+1)))
 | 0,i,_=>rfl
 | n+1,i,hi=>by
  have hx:=List.getElem?_eq_getElem (show i<s.Ws.length by omega)
  have ih:=zAa h G n (i+1) (by omega)
  rw [show ((i+1:Nat):Int)=(i:Int)+1 by omega] at ih
  rw [zvt,zrh h G hx,Option.bind_some,ih,Option.bind_some,List.range'_succ,List.map_cons,hx];rfl
theorem zzW {p:zb} (h:zB p) {nb k:Nat} {s:za} {gh:Gh} (G:FG p nb k s gh): ∀(n i:Nat),i+n=s.Ms.length→zvd s n (i:Int)=some ((List.range' i n).map fun j:Nat=>(s.Ms[j]?).elim [] fun x=>ua (zW s x))
 | 0,i,_=>rfl
 | n+1,i,hi=>by
  have hx:=List.getElem?_eq_getElem (show i<s.Ms.length by omega)
  have ih:=zzW h G n (i+1) (by omega)
  rw [show ((i+1:Nat):Int)=(i:Int)+1 by omega] at ih
  rw [zvd,zpe h G hx,Option.bind_some,ih,Option.bind_some,List.range'_succ,List.map_cons,hx];rfl
theorem zCf {a b:List Int} (ha:a.length<1000000) (hb:b.length<1000000):YI [a,b]=some (a++b,()):=by
 rw [zen]
 obtain ⟨e,_⟩:=Zo (f:=xA) (fun j (r:Int)=>([a,b],r,[a,b],2,j,())) (fun r=>([a,b],r,())) [a,b] (show 2<1000000 by decide) (fun r x=>r+(x.length:Int)) (fun i r=>0≤r∧r≤(i:Int)*1000000) (s:=0) ⟨by omega,by omega⟩
  (fun i r x hx hi hr=>by
   have hi:i<2:=hi
   have hxl:x.length<1000000:=by
    rcases List.mem_cons.1 (List.mem_of_getElem? hx) with rfl | hx
    ·exact ha
    ·rw [List.mem_singleton.1 hx];exact hb
   refine ⟨⟨by omega,by omega⟩,?_⟩
   show xA ([a,b],r,[a,b],2,(i:Int),())=_
   rw [XE,zj,if_pos (by omega),xp hx,Option.bind_some,zU (a:=r+(x.length:Int)) (by omega) (by omega),zj,if_neg (by omega),yw (by omega)])
  (fun r hr=>by
   show xA ([a,b],r,[a,b],2,2,())=_
   rw [XE];rfl)
 have e:zO xA ([a,b],0,[a,b],(([a,b]:List (List Int)).length:Int),0,())=some (.brk ([a,b],0+(a.length:Int)+(b.length:Int),())):=e
 rw [e,Option.bind_some]
 dsimp only
 have hg:zAG (0+(a.length:Int)+(b.length:Int))=some ([],()):=by
  rw [zDN]
  unfold zud
  rw [decide_eq_true (by omega:(0:Int)≤0+(a.length:Int)+(b.length:Int)),decide_eq_true (by omega:0+(a.length:Int)+(b.length:Int)<4294967296)];rfl
 rw [hg,Option.bind_some]
 obtain ⟨e,_⟩:=Zo (f:=xq) (fun j (r:List Int)=>([a,b],2,j,r,())) (fun r=>(r,())) [a,b] (show 2<1000000 by decide) (fun r x=>r++x) (fun i r=>r.length≤i*1000000) (s:=[]) (by simp)
  (fun i r x hx hi hr=>by
   have hi:i<2:=hi
   have hxl:x.length<1000000:=by
    rcases List.mem_cons.1 (List.mem_of_getElem? hx) with rfl | hx
    ·exact ha
    ·rw [List.mem_singleton.1 hx];exact hb
   refine ⟨by rw [List.length_append];omega,?_⟩
   show xq ([a,b],2,(i:Int),r,())=_
   rw [Xd,zj,if_pos (by omega),xp hx,Option.bind_some,yp (by simp;omega),Option.bind_some,yw (by omega)])
  (fun r hr=>by
   show xq ([a,b],2,2,r,())=_
   rw [Xd];rfl)
 have e:zO xq ([a,b],(([a,b]:List (List Int)).length:Int),0,([]:List Int),())=some (.brk ([]++a++b,())):=e
 rw [e];rfl
theorem zEI {a b:List Int} (ha:a.length<1000000) (hb:b.length<1000000):zo9 a b=some (ua (a++b),()):=by
 rw [zyH,zCf ha hb,Option.bind_some,zv6 (by simp;omega)];rfl
theorem zvY: ∀(ys:List (List Int)) (a:List Int),(a++ys.flatten).length<1000000→Zc zaZ ys (ua a,())=some (ua (a++ys.flatten),())
 | [],a,_=>by rw [Zc];simp
 | y::ys,a,hl=>by
  rw [List.flatten_cons,←List.append_assoc] at hl ⊢
  have hl2:=hl
  rw [List.length_append,List.length_append] at hl2
  rw [Zc,zrf,zEI (by rw [zDV];omega) (by omega),Option.bind_some,Option.bind_some]
  dsimp only
  rw [zDl]
  exact zvY ys (a++y) hl
theorem zwb {α:Type} {f:α→List Int} (l:List α):List.Perm ((l.map fun x=>ua (f x)).flatten) (l.flatMap f):=by
 induction l with
 | nil=>exact List.Perm.refl _
 | cons a l ih =>
  rw [List.map_cons,List.flatten_cons,List.flatMap_cons]
  exact (WY _).append ih
theorem zDv {p:zb} (h:zB p) {k:Nat} {s:za} {gh:Gh} (G:FG p (zQ p+1) k s gh): ∃ys,zto s=some ys∧List.Perm ys.flatten (vP p s gh):=by
 have hwl:=G.E.wl
 have hwk:=h.wk
 have hml:=G.E.ml
 have hmt:=h.mt
 refine ⟨_,by
  unfold zto
  rw [decide_eq_true (show s.Ws.length<1000000 by omega),decide_eq_true (show s.Ms.length<1000000 by omega),(znR h G).1,Bool.and_self,cond_true,Option.bind_some,show (0:Int)=((0:Nat):Int) from rfl,zAa h G s.Ws.length 0 (by omega),Option.bind_some,zzW h G s.Ms.length 0 (by omega),Option.bind_some],?_⟩
 have eW:((List.range' 0 s.Ws.length).map fun j:Nat=>(s.Ws[j]?).elim [] fun x=>ua (zJ s x++gh.D ((j:Int)+1)))=(List.range s.Ws.length).map fun j:Nat=>ua ((s.Ws[j]?).elim [] fun x=>zJ s x++gh.D ((j:Int)+1)):=by
  rw [←List.range_eq_range']
  refine List.map_congr_left (fun j hj=> ?_)
  rw [List.getElem?_eq_getElem (List.mem_range.1 hj)];rfl
 have eM:((List.range' 0 s.Ms.length).map fun j:Nat=>(s.Ms[j]?).elim [] fun x=>ua (zW s x))=(List.range s.Ms.length).map fun j:Nat=>ua ((s.Ms[j]?).elim [] (zW s)):=by
  rw [←List.range_eq_range']
  refine List.map_congr_left (fun j hj=> ?_)
  rw [List.getElem?_eq_getElem (List.mem_range.1 hj)];rfl
 dsimp only
 rw [eW,eM,List.flatten_cons,List.flatten_append]
 refine ((WY _).append ((zwb _).append (zwb _))).trans ?_
 rw [zs8 (f:=zW s) s.Ms]
 have eW2:(List.range s.Ws.length).flatMap (fun j:Nat=>(s.Ws[j]?).elim [] fun x=>zJ s x++gh.D ((j:Int)+1))=(List.range s.Ws.length).flatMap (fun j:Nat=>(s.Ws[j]?).elim [] (zJ s)++gh.D ((j:Int)+1)) :=
  xB (fun j hj=>by rw [List.getElem?_eq_getElem (List.mem_range.1 hj)];rfl)
 rw [eW2]
 unfold vP yn
 have en:p.Workers.toNat=s.Ws.length:=by omega
 rw [en,List.append_assoc]
 refine List.Perm.append_left _ ?_
 rw [←List.append_assoc]
 refine List.Perm.append_right _ ?_
 refine (zwp (List.range s.Ws.length) (f:=fun i:Nat=>(s.Ws[i]?).elim [] (zJ s)) (g:=fun i:Nat=>gh.D ((i:Int)+1))).trans ?_
 rw [zs8 (f:=zJ s) s.Ws]
 exact List.perm_append_comm
theorem FG.bag9 {p:zb} (h:zB p) {nb k:Nat} {s:za} {gh:Gh} (G:FG p nb k s gh):(vP p s gh).length≤9∧∀o∈vP p s gh,1≤o∧o≤9:=by
 have hN:=G.E.H.n
 have hn:=h.n
 have hmo:=h.most
 have hr: ∀o∈vP p s gh,1≤o∧o≤(s.H.Objs.length:Int):=fun o ho=>⟨(ziE ((G.B.gr o).1 ho)).1,G.mrk o ((WZ _ _).1 ((G.B.gr o).1 ho)).1⟩
 have:=zrB s.H.Objs.length _ G.B.nd hr
 exact ⟨by omega,fun o ho=>by have:=hr o ho;omega⟩
theorem zCc {p:zb} (h:zB p) {k:Nat} {s:za} {gh:Gh} (G:FG p (zQ p+1) k s gh):Vi s=some (ua (vP p s gh),()):=by
 obtain ⟨ys,e,hp⟩:=zDv h G
 have hl:=(G.bag9 h).1
 rw [zuD,zwI,Option.bind_some]
 have ej:zpu s.P.Workers s.P.Mutators s.P.Cap s.P.Buf s.P.Bin s.P.Most s.P.Price s.P.Limit s.P.H.Slots s.P.H.Objs s.P.Roots s.P.Regs s.P.Progs s.P.Picks s.H.Slots s.H.Objs s.M s.Bins s.T.Marks s.T.Black s.Work s.Epoch s.Flag s.Done s.Restarts s.Acks s.L.Scanned s.L.Spent s.L.Pool s.L.Bal s.Ws s.Ms s.D.PC s.D.I=some ys:=e
 dsimp only
 rw [ej,Option.bind_some]
 have:=zvY ys [] (by rw [List.nil_append,hp.length_eq];omega)
 rw [List.nil_append] at this
 have this:Zc zaZ ys (([]:List Int),())=some (ua ys.flatten,()):=this
 rw [this,zz1 hp];rfl
end
end Go.Pe.G
namespace Go.Pe.G
open Go.Pe
noncomputable section
def uP (s:za):List zu:=(s.Ws.filter (fun x=>decide (x.PC=6))).map (·.G)++(s.Ms.filter (fun x=>decide (x.PC=3∨x.PC=37))).map (·.G)
theorem zoo {α β:Type} (c:α→Bool) (f:α→β): ∀(l:List α) (a:List β),l.foldl (fun r x=>bif c x then r++[f x] else r) a=a++(l.filter c).map f
 | [],a=>by simp
 | x::l,a=>by
  rw [List.foldl_cons,zoo c f l,List.filter_cons]
  cases c x<;>simp
theorem zBf (x:zc):uf x=some (decide (x.PC=3∨x.PC=37),()):=by
 rw [zel]
 by_cases c:x.PC=3
 ·rw [decide_eq_true c,decide_eq_true (show x.PC=3∨x.PC=37 from .inl c)];rfl
 ·rw [decide_eq_false c]
  by_cases c2:x.PC=37
  ·rw [decide_eq_true c2,decide_eq_true (show x.PC=3∨x.PC=37 from .inr c2)];rfl
  ·rw [decide_eq_false c2,decide_eq_false (show ¬(x.PC=3∨x.PC=37) from fun e=>e.elim c c2)];rfl
theorem zoF {s:za} (h1:s.Ws.length≤100) (h2:s.Ms.length≤100):zam s=some (uP s,()):=by
 rw [zo7]
 obtain ⟨e,_⟩:=Zo (f:=Yx) (fun j r=>(s.Ws,(s.Ws.length:Int),j,s,r,())) (fun r=>(s,r,())) s.Ws (Nat.lt_of_le_of_lt h1 (by decide)) (fun r x=>bif decide (x.PC=6) then r++[x.G] else r) (fun i r=>r.length≤i) (s:=[]) (by simp)
  (fun i r x hx hi hr=>by
   refine ⟨?_,?_⟩
   ·cases decide (x.PC=6)
    ·show r.length≤_;omega
    ·show (r++[x.G]).length≤_;simp;omega
   show Yx (s.Ws,(s.Ws.length:Int),(i:Int),s,r,())=_
   rw [zcR,zj,if_pos (by omega),xp hx,Option.bind_some,yp (by simp;omega),Option.bind_some,yw (by omega)]
   cases decide (x.PC=6)<;>rfl)
  (fun r hr=>by
   show Yx (s.Ws,(s.Ws.length:Int),(s.Ws.length:Int),s,r,())=_
   rw [zcR,zj,if_neg (by omega)])
 rw [zoo,List.nil_append] at e
 rw [e,Option.bind_some]
 dsimp only
 have hfl:((s.Ws.filter (fun x:zh=>decide (x.PC=6))).map fun x:zh=>x.G).length≤s.Ws.length:=by rw [List.length_map];exact List.length_filter_le _ _
 obtain ⟨e,_⟩:=Zo (f:=YG) (fun j r=>(s.Ms,(s.Ms.length:Int),j,r,())) (fun r=>(r,())) s.Ms (Nat.lt_of_le_of_lt h2 (by decide)) (fun r x=>bif decide (x.PC=3∨x.PC=37) then r++[x.G] else r) (fun i r=>r.length≤i+100) (s:=(s.Ws.filter (fun x:zh=>decide (x.PC=6))).map fun x:zh=>x.G) (by omega)
  (fun i r x hx hi hr=>by
   refine ⟨?_,?_⟩
   ·cases decide (x.PC=3∨x.PC=37)
    ·show r.length≤_;omega
    ·show (r++[x.G]).length≤_;simp;omega
   show YG (s.Ms,(s.Ms.length:Int),(i:Int),r,())=_
   rw [zcX,zj,if_pos (by omega),xp hx,Option.bind_some,zBf,Option.bind_some,yp (by simp;omega),Option.bind_some,yw (by omega)]
   dsimp only
   cases decide (x.PC=3∨x.PC=37)<;>rfl)
  (fun r hr=>by
   show YG (s.Ms,(s.Ms.length:Int),(s.Ms.length:Int),r,())=_
   rw [zcX,zj,if_neg (by omega)])
 rw [zoo] at e
 rw [e];rfl
theorem zFa (g:zu):owG g=0∨owG g=1:=by unfold owG;split<;>simp
theorem zCB (g:zu):zmh g=some (owG g,()):=by
 rw [zu7,zi1]
 simp only [zj]
 unfold owG
 by_cases c1:g.Out=0
 ·rw [if_pos c1]
  by_cases c2:1≤g.PC
  ·rw [if_pos c2]
   by_cases c3:g.PC≤2
   ·rw [if_pos c3,if_pos ⟨c1,by omega⟩];rfl
   ·rw [if_neg c3,if_neg (by omega)];rfl
  ·rw [if_neg c2,if_neg (by omega)];rfl
 ·rw [if_neg c1,if_neg (fun e=>c1 e.1)];rfl
theorem zlt {α:Type} (f:α→Int): ∀(l:List α) (a:Int),l.foldl (fun r x=>r+f x) a=a+(l.map f).sum
 | [],a=>by simp
 | x::l,a=>by rw [List.foldl_cons,zlt f l,List.map_cons,List.sum_cons];omega
theorem zpr {α:Type} (c:α→Bool) (f g h:α→Int) (e: ∀x,h x=(bif c x then f x else 0)+g x): ∀l:List α,(l.map h).sum=((l.filter c).map f).sum+(l.map g).sum
 | []=>rfl
 | x::l=>by
  rw [List.map_cons,List.sum_cons,zpr c f g h e l,List.filter_cons,e x,List.map_cons,List.sum_cons]
  cases c x<;>simp<;>omega
theorem zCA (s:za):U3 s=((uP s).map owG).sum+(s.Ws.map fun x=>if x.PC=9 then (1:Int) else 0).sum+(s.Ms.map fun x=>if x.PC=39 then (1:Int) else 0).sum:=by
 have hW:=zpr (fun x:zh=>decide (x.PC=6)) (fun x=>owG x.G) (fun x=>if x.PC=9 then (1:Int) else 0) owW (fun x=>by
  unfold owW
  by_cases c:x.PC=9
  ·rw [if_pos c,if_pos c,decide_eq_false (show ¬x.PC=6 by omega)];rfl
  ·rw [if_neg c,if_neg c]
   by_cases c6:x.PC=6
   ·rw [if_pos c6,decide_eq_true c6];show owG x.G=owG x.G+0;omega
   ·rw [if_neg c6,decide_eq_false c6];rfl) s.Ws
 have hX:=zpr (fun x:zc=>decide (x.PC=3∨x.PC=37)) (fun x=>owG x.G) (fun x=>if x.PC=39 then (1:Int) else 0) owX (fun x=>by
  unfold owX
  by_cases c:x.PC=39
  ·rw [if_pos c,if_pos c,decide_eq_false (show ¬(x.PC=3∨x.PC=37) by omega)];rfl
  ·rw [if_neg c,if_neg c]
   by_cases c6:x.PC=3∨x.PC=37
   ·rw [if_pos c6,decide_eq_true c6];show owG x.G=owG x.G+0;omega
   ·rw [if_neg c6,decide_eq_false c6];rfl) s.Ms
 unfold U3 uP
 rw [hW,hX,List.map_append,List.sum_append,List.map_map,List.map_map]
 have a1:(List.map (owG ∘ fun x:zh=>x.G) (s.Ws.filter fun x=>decide (x.PC=6)))=(s.Ws.filter fun x=>decide (x.PC=6)).map fun x=>owG x.G:=rfl
 have a2:(List.map (owG ∘ fun x:zc=>x.G) (s.Ms.filter fun x=>decide (x.PC=3∨x.PC=37)))=(s.Ms.filter fun x=>decide (x.PC=3∨x.PC=37)).map fun x=>owG x.G:=rfl
 rw [a1,a2]
 omega
theorem zB2 {s:za} (h1:s.Ws.length≤100) (h2:s.Ms.length≤100):zmA s=some (U3 s,()):=by
 rw [zvx,zoF h1 h2,Option.bind_some]
 dsimp only
 have hl:(uP s).length≤200:=by
  unfold uP
  rw [List.length_append,List.length_map,List.length_map]
  have:=List.length_filter_le (fun x:zh=>decide (x.PC=6)) s.Ws
  have:=List.length_filter_le (fun x:zc=>decide (x.PC=3∨x.PC=37)) s.Ms
  omega
 obtain ⟨e,b1,b2⟩:=Zo (f:=V3) (fun j r=>(r,((uP s).length:Int),j,s,uP s,())) (fun r=>(r,s,())) (uP s) (by omega) (fun r x=>r+owG x) (fun i r=>0≤r∧r≤(i:Int)) (s:=0) ⟨by omega,by omega⟩
  (fun i r x hx hi hr=>by
   have:=zFa x
   refine ⟨⟨by omega,by omega⟩,?_⟩
   show V3 (r,((uP s).length:Int),(i:Int),s,uP s,())=_
   rw [zh2,zj,if_pos (by omega),wP (by omega) (by omega),Option.bind_some,Int.toNat_natCast,hx,Option.bind_some,zCB,Option.bind_some,yw (by omega),zU (by omega) (by omega)])
  (fun r hr=>by
   show V3 (r,((uP s).length:Int),((uP s).length:Int),s,uP s,())=_
   rw [zh2,zj,if_neg (by omega)])
 rw [zlt] at e b1 b2
 rw [e,Option.bind_some]
 dsimp only
 generalize hr0:0+((uP s).map owG).sum=r0 at b1 b2
 obtain ⟨e,b3,b4⟩:=Zo (f:=VI) (fun j r=>(r,s.Ws,(s.Ws.length:Int),j,s,())) (fun r=>(r,s,())) s.Ws (by omega) (fun (r:Int) x=>r+if x.PC=9 then 1 else 0) (fun i r=>0≤r∧r≤200+(i:Int)) (s:=r0) ⟨by omega,by omega⟩
  (fun i r x hx hi hr=>by
   refine ⟨⟨by split<;>omega,by split<;>omega⟩,?_⟩
   show VI (r,s.Ws,(s.Ws.length:Int),(i:Int),s,())=_
   rw [zhV,zj,if_pos (by omega),xp hx,Option.bind_some,yw (by omega),zj]
   by_cases c:x.PC=9
   ·rw [if_pos c,if_pos c,zU (by omega) (by omega)]
   ·rw [if_neg c,if_neg c,show r+0=r by omega])
  (fun r hr=>by
   show VI (r,s.Ws,(s.Ws.length:Int),(s.Ws.length:Int),s,())=_
   rw [zhV,zj,if_neg (by omega)])
 rw [zlt] at e b3 b4
 rw [e,Option.bind_some]
 dsimp only
 generalize hr1:r0+(s.Ws.map fun x=>if x.PC=9 then (1:Int) else 0).sum=r1 at b3 b4
 obtain ⟨e,_⟩:=Zo (f:=WN) (fun j r=>(r,s.Ms,(s.Ms.length:Int),j,())) (fun r=>(r,())) s.Ms (by omega) (fun (r:Int) x=>r+if x.PC=39 then 1 else 0) (fun i r=>0≤r∧r≤400+(i:Int)) (s:=r1) ⟨by omega,by omega⟩
  (fun i r x hx hi hr=>by
   refine ⟨⟨by split<;>omega,by split<;>omega⟩,?_⟩
   show WN (r,s.Ms,(s.Ms.length:Int),(i:Int),())=_
   rw [zgg,zj,if_pos (by omega),xp hx,Option.bind_some,yw (by omega),zj]
   by_cases c:x.PC=39
   ·rw [if_pos c,if_pos c,zU (by omega) (by omega)]
   ·rw [if_neg c,if_neg c,show r+0=r by omega])
  (fun r hr=>by
   show WN (r,s.Ms,(s.Ms.length:Int),(s.Ms.length:Int),())=_
   rw [zgg,zj,if_neg (by omega)])
 rw [zlt] at e
 rw [e,Option.bind_some,zCA]
 dsimp only
 rw [←hr1,←hr0]
 congr 2
 omega
end
end Go.Pe.G
namespace Go.Pe.G
open Go.Pe
noncomputable section
inductive Reach (h:zt) (R:BitVec 64):Int→Prop
 | root (o:Int) (h1:zY R o=true) (h2:1≤o∧o≤(h.Objs.length:Int)):Reach h R o
 | step (o v:Int) (h1:Reach h R o) (h2:v∈zV h o) (h3:1≤v∧v≤(h.Objs.length:Int)):Reach h R v
theorem Reach.in {h:zt} {R:BitVec 64} {o:Int} (r:Reach h R o):1≤o∧o≤(h.Objs.length:Int):=by
 cases r with
 | root _ _ h2=>exact h2
 | step _ _ _ _ h3=>exact h3
theorem zAz: ∀t:Fin 512,znT 66 (BitVec.ofNat 64 t.1)=some (((List.range 9).filter fun i=>(BitVec.ofNat 64 t.1).getLsbD i).map fun i:Nat=>(i:Int)+1):=by decide +kernel
def uI (s:BitVec 64):List Int:=((List.range 9).filter fun i=>s.getLsbD i).map fun i:Nat=>(i:Int)+1
theorem zEB: ∀t:Fin 512,Go.Lib.ctz 64 t.1≤64:=by decide +kernel
theorem zv4: ∀(f:Nat) (s:BitVec 64),s.toNat<512→VO f s=znT f s
 | 0,_,_=>rfl
 | f+1,s,h=>by
  simp only [VO,znT]
  rw [zv4 f _ (by rw [BitVec.toNat_and];exact Nat.lt_of_le_of_lt Nat.and_le_left h)]
  have:Go.Lib.ctz 64 s.toNat≤64:=zEB ⟨s.toNat,h⟩
  have e:w64 (tz s+1)=((Go.Lib.ctz 64 s.toNat:Nat):Int)+1:=by
   unfold tz
   exact zU (by omega) (by omega)
  rw [e]
theorem zBB (s:BitVec 64) (o:Int):o∈uI s↔1≤o∧o≤9∧zY s o=true:=by
 unfold uI
 rw [List.mem_map]
 constructor
 ·rintro ⟨i,hi,rfl⟩
  obtain ⟨a,b⟩:=List.mem_filter.1 hi
  have a:=List.mem_range.1 a
  exact ⟨by omega,by omega,(xC _ _).2 ⟨by omega,by omega,by rw [show ((i:Int)+1-1).toNat=i by omega];exact b⟩⟩
 ·rintro ⟨a,b,c⟩
  obtain ⟨_,_,d⟩:=(xC _ _).1 c
  exact ⟨(o-1).toNat,List.mem_filter.2 ⟨List.mem_range.2 (by omega),d⟩,by omega⟩
theorem zv9 (s:BitVec 64):(uI s).length≤9:=by
 unfold uI
 rw [List.length_map]
 exact Nat.le_trans (List.length_filter_le _ _) (by simp)
theorem zCl {s:BitVec 64} (h: ∀o,zY s o=true→o≤9):zdV s=some (uI s,()):=by
 obtain ⟨t,rfl⟩:=zCd h
 have e:zj2 (BitVec.ofNat 64 t.1)=some (uI (BitVec.ofNat 64 t.1)):=by
  show VO 66 _=_
  rw [zv4 66 _ (by simp;omega),zAz t];rfl
 have:=zv9 (BitVec.ofNat 64 t.1)
 rw [zoB,zoC,Option.bind_some,e,Option.bind_some,zot _ _ (by simp;omega)]
 rfl
theorem zqr {α:Type} {l:List α} {n:Nat} {i:Int} (h:0≤i) (h1:i<l.length) (h2:i<n):zeW l n i=some i.toNat:=by
 unfold zeW;simp [h,h1,h2]
def mt (met:List Int) (o:Int):Int:=met.getD (o-1).toNat 0
def Wh (met:List Int):Nat:=met.countP (fun x=>decide (x=0))
theorem zuf {met:List Int} {o:Int} (h:1≤o∧o≤(met.length:Int)):met[(o-1).toNat]? =some (mt met o):=by
 have e:=List.getElem?_eq_getElem (show (o-1).toNat<met.length by omega)
 unfold mt
 rw [List.getD_eq_getElem?_getD,e];rfl
theorem zj3 {met:List Int} {o q x:Int} (h:1≤o∧o≤(met.length:Int)) (hq:1≤q):mt (met.set (o-1).toNat x) q=if q=o then x else mt met q:=by
 unfold mt
 rw [List.getD_eq_getElem?_getD,List.getD_eq_getElem?_getD,List.getElem?_set]
 by_cases e:q=o
 ·subst e;rw [if_pos rfl,if_pos rfl,if_pos (by omega)];rfl
 ·rw [if_neg (by omega),if_neg e]
theorem zCp {met:List Int} {o x:Int} (h:1≤o∧o≤(met.length:Int)) (h0:mt met o=0) (hx:x≠0):Wh (met.set (o-1).toNat x)+1=Wh met:=by
 have hl:(o-1).toNat<met.length:=by omega
 have e:met[(o-1).toNat]'hl=0:=by
  have:=zuf h
  rw [h0,List.getElem?_eq_getElem hl] at this
  exact Option.some.inj this
 have hm:(0:Int)∈met:=by rw [←e];exact List.getElem_mem hl
 have hp:0<Wh met:=List.countP_pos_iff.2 ⟨0,hm,by simp⟩
 unfold Wh at hp ⊢
 rw [List.countP_set hl,e]
 simp [hx]
 omega
structure RI (h:zt) (R:BitVec 64) (met wait:List Int):Prop where
 len:met.length=64
 val: ∀o,1≤o→0≤mt met o∧mt met o≤100-(Wh met:Int)
 rc: ∀o,1≤o→0<mt met o→Reach h R o
 rt: ∀o,zY R o=true→1≤o∧o≤(h.Objs.length:Int)→0<mt met o
 wt: ∀o∈wait,(1≤o∧o≤(h.Objs.length:Int))∧0<mt met o
 cl: ∀o,1≤o→0<mt met o→o∉wait→∀v∈zV h o,1≤v∧v≤(h.Objs.length:Int)→0<mt met v
 zl:Wh met≤64
theorem zCU (met:List Int):Wh met≤met.length:=List.countP_le_length
theorem RI.add {h:zt} {R:BitVec 64} {met wait:List Int} {o v:Int} (hn:h.Objs.length≤9) (I:RI h R met wait) (ho:o∈wait) (hv:v∈zV h o) (hr:1≤v∧v≤(h.Objs.length:Int)) (h0:mt met v=0) :
  RI h R (met.set (v-1).toNat (mt met o+1)) (wait++[v])∧Wh (met.set (v-1).toNat (mt met o+1))+1=Wh met:=by
 obtain ⟨ho1,ho2⟩:=I.wt o ho
 have hlen:=I.len
 have hvl:1≤v∧v≤(met.length:Int):=by omega
 have hz:=zCp (x:=mt met o+1) hvl h0 (by omega)
 have hval:=I.val o ho1.1
 have hzl:=I.zl
 have key: ∀q,1≤q→0<mt met q→0<mt (met.set (v-1).toNat (mt met o+1)) q:=fun q hq hp=>by
  rw [zj3 hvl hq];split<;>omega
 refine ⟨⟨by rw [List.length_set];exact hlen,fun q hq=> ?_,fun q hq hp=> ?_,fun q a b=>key q b.1 (I.rt q a b),fun q hq=> ?_,fun q hq hp hw u hu hur=> ?_,by omega⟩,hz⟩
 ·have:=I.val q hq
  rw [zj3 hvl hq];split<;>omega
 ·rw [zj3 hvl hq] at hp
  split at hp
  ·rename_i e;subst e;exact .step o q (I.rc o ho1.1 ho2) hv hr
  ·exact I.rc q hq hp
 ·rcases List.mem_append.1 hq with hq | hq
  ·exact ⟨(I.wt q hq).1,key q (I.wt q hq).1.1 (I.wt q hq).2⟩
  ·simp at hq;subst hq
   refine ⟨hr,?_⟩
   rw [zj3 hvl hr.1,if_pos rfl];omega
 ·have hw1:q∉wait:=fun e=>hw (List.mem_append_left _ e)
  have hw2:q≠v:=fun e=>hw (by rw [e];simp)
  rw [zj3 hvl hq,if_neg hw2] at hp
  exact key u hur.1 (I.cl q hq hp hw1 u hu hur)
theorem RI.rm {h:zt} {R:BitVec 64} {met:List Int} {o:Int} {w:List Int} (I:RI h R met (o::w)) (hd: ∀v∈zV h o,1≤v∧v≤(h.Objs.length:Int)→0<mt met v):RI h R met w :=
 ⟨I.len,I.val,I.rc,I.rt,fun q hq=>I.wt q (List.mem_cons_of_mem _ hq),fun q hq hp hw v hv hr=>by
  by_cases e:q=o
  ·rw [e] at hv;exact hd v hv hr
  ·exact I.cl q hq hp (fun h=>(List.mem_cons.1 h).elim e hw) v hv hr,I.zl⟩
theorem zBe {h:zt} {R:BitVec 64} (hn:h.Objs.length≤9) {o:Int} {w0:List Int} {a7:List Int} (hs:(zV h o).length<1000000): ∀(n:Nat) (met added:List Int) (i:Nat),(zV h o).length-i=n→i≤(zV h o).length→RI h R met (o::w0++added)→(o::w0++added).length+Wh met≤200 →
  (∀v∈(zV h o).take i,1≤v∧v≤(h.Objs.length:Int)→0<mt met v)→∀m,n<m →
  ∃met' added',xr va m (wY (h.Objs.length:Int),o,zV h o,((zV h o).length:Int),(i:Int),h,a7,met,o::w0++added,())=some (.brk (wY (h.Objs.length:Int),h,a7,met',o::w0++added',())) ∧
   RI h R met' (o::w0++added')∧(o::w0++added').length+Wh met'=(o::w0++added).length+Wh met∧Wh met'≤Wh met∧(∀v∈zV h o,1≤v∧v≤(h.Objs.length:Int)→0<mt met' v):=by
 intro n
 induction n with
 | zero =>
  intro met added i hk hi I hz hd m hm
  obtain ⟨m,rfl⟩: ∃x,m=x+1:=⟨m-1,by omega⟩
  have e:i=(zV h o).length:=by omega
  subst e
  rw [List.take_length] at hd
  refine ⟨met,added,?_,I,rfl,Nat.le_refl _,hd⟩
  rw [xr,YU,zj,if_neg (by omega)];rfl
 | succ n ih =>
  intro met added i hk hi I hz hd m hm
  obtain ⟨m,rfl⟩: ∃x,m=x+1:=⟨m-1,by omega⟩
  have hx:=List.getElem?_eq_getElem (show i<(zV h o).length by omega)
  generalize hxv:(zV h o)[i]'(by omega)=v at hx
  have hv:v∈zV h o:=List.mem_of_getElem? hx
  have hlen:=I.len
  have ho:=I.wt o (by simp)
  have hval:=I.val o ho.1.1
  have htk:(zV h o).take (i+1)=(zV h o).take i++[v]:=by rw [List.take_add_one,hx];rfl
  rw [xr,YU,zj,if_pos (by omega),xp hx,Option.bind_some,zqF,Option.bind_some]
  have hb:=zol hn v
  unfold zY at hb
  by_cases hr:1≤v∧v≤(h.Objs.length:Int)
  ·have hb1:=hb.2 hr
   dsimp only
   rw [hb1,cond_true,zU (a:=v-1) (by omega) (by omega),zqr (by omega) (by omega) (by omega),Option.bind_some,zuf (by omega),Option.bind_some,zj]
   by_cases h0:mt met v=0
   ·rw [if_pos h0,zU (a:=o-1) (by omega) (by omega),zqr (by omega) (by omega) (by omega),Option.bind_some,zuf (by omega),Option.bind_some,Option.bind_some,yp (by rw [List.length_append];show _+1<_;omega),Option.bind_some,zU (a:=(i:Int)+1) (by omega) (by omega),zU (a:=mt met o+1) (by omega) (by omega),Option.bind_some]
    obtain ⟨I',hz'⟩:=I.add hn (by simp) hv hr h0
    dsimp only
    rw [List.append_assoc] at I' ⊢
    have hz2:(o::w0++(added++[v])).length=(o::w0++added).length+1:=by simp;omega
    obtain ⟨met',added',e1,e2,e3,e4,e5⟩:=ih (met.set (v-1).toNat (mt met o+1)) (added++[v]) (i+1) (by omega) (by omega) I' (by omega) (fun q hq hqr=>by
     rw [zj3 (by omega) hqr.1]
     split
     ·omega
     ·rename_i hne
      rw [htk] at hq
      rcases List.mem_append.1 hq with hq | hq
      ·exact hd q hq hqr
      ·simp at hq;exact absurd hq hne) m (by omega)
    refine ⟨met',added',?_,e2,by omega,by omega,e5⟩
    have:((i+1:Nat):Int)=(i:Int)+1:=by omega
    rw [←this]
    exact e1
   ·rw [if_neg h0,zU (a:=(i:Int)+1) (by omega) (by omega),Option.bind_some]
    have hp:0<mt met v:=by have:=I.val v hr.1;omega
    obtain ⟨met',added',e1,e2⟩:=ih met added (i+1) (by omega) (by omega) I hz (fun q hq hqr=>by
     rw [htk] at hq
     rcases List.mem_append.1 hq with hq | hq
     ·exact hd q hq hqr
     ·simp at hq;rw [hq];exact hp) m (by omega)
    refine ⟨met',added',?_,e2⟩
    have:((i+1:Nat):Int)=(i:Int)+1:=by omega
    rw [←this]
    exact e1
  ·have hb1:(!(decide (wY (h.Objs.length:Int)&&&bit v=0#64)))=false:=by
    cases hc:(!(decide (wY (h.Objs.length:Int)&&&bit v=0#64))) with
    | false=>rfl
    | true=>exact absurd (hb.1 hc) hr
   dsimp only
   rw [hb1,cond_false,zU (a:=(i:Int)+1) (by omega) (by omega),Option.bind_some]
   obtain ⟨met',added',e1,e2⟩:=ih met added (i+1) (by omega) (by omega) I hz (fun q hq hqr=>by
    rw [htk] at hq
    rcases List.mem_append.1 hq with hq | hq
    ·exact hd q hq hqr
    ·simp at hq;rw [hq] at hqr;exact absurd hqr hr) m (by omega)
   refine ⟨met',added',?_,e2⟩
   have:((i+1:Nat):Int)=(i:Int)+1:=by omega
   rw [←this]
   exact e1
theorem zsq {A B D:Type} {f:A→Option (yA A B D)} {x:A} {b:B} {n:Nat} (h:xr f n x=some (.brk b)) (hn:n≤vH):zO f x=some (.brk b):=by
 rw [XW]
 have key: ∀(n m:Nat) (x:A),xr f n x=some (.brk b)→n≤m→xr f m x=some (.brk b):=by
  intro n
  induction n with
  | zero=>intro m x h;cases h
  | succ n ih =>
   intro m x h hm
   obtain ⟨m,rfl⟩: ∃q,m=q+1:=⟨m-1,by omega⟩
   simp only [xr,Option.bind_eq_some_iff] at h ⊢
   obtain ⟨s,h1,h2⟩:=h
   refine ⟨s,h1,?_⟩
   cases s with
   | again y=>exact ih m y h2 (by omega)
   | brk b'=>exact h2
   | ret c=>exact h2
 exact key n vH x h hn
theorem zDr {h:zt} {R:BitVec 64} (hn:h.Objs.length≤9) (hs: ∀o,(zV h o).length<1000000) {a7:List Int}: ∀(n:Nat) (met wait:List Int),wait.length+2*Wh met≤n→wait.length+Wh met≤200→RI h R met wait→∀m,n<m →
  ∃met',xr ZB m (wY (h.Objs.length:Int),h,a7,met,wait,())=some (.brk (a7,met',()))∧RI h R met' []:=by
 intro n
 induction n with
 | zero =>
  intro met wait hz hz2 I m hm
  obtain ⟨m,rfl⟩: ∃x,m=x+1:=⟨m-1,by omega⟩
  have:wait=[]:=List.eq_nil_of_length_eq_zero (by omega)
  subst this
  refine ⟨met,?_,I⟩
  rw [xr,uF,zj,if_neg (by simp)];rfl
 | succ n ih =>
  intro met wait hz hz2 I m hm
  obtain ⟨m,rfl⟩: ∃x,m=x+1:=⟨m-1,by omega⟩
  cases wait with
  | nil =>
   refine ⟨met,?_,I⟩
   rw [xr,uF,zj,if_neg (by simp)];rfl
  | cons o w =>
   have ho:=(I.wt o (by simp)).1
   have hso:=hs o
   have eo:=List.getElem?_eq_getElem (show (o-1).toNat<h.Objs.length by omega)
   have es:h.Objs[(o-1).toNat]'(by omega)=zV h o:=by unfold zV;rw [List.getD_eq_getElem?_getD,eo];rfl
   obtain ⟨met',added',e1,e2,e3,e4,e5⟩:=zBe (a7:=a7) hn (o:=o) (w0:=w) hso _ met [] 0 rfl (Nat.zero_le _) (by simpa using I) (by simpa using hz2) (fun v hv=>by simp at hv) ((zV h o).length+1) (by omega)
   simp only [List.append_nil,Int.natCast_zero] at e1 e3
   have e1:xr va ((zV h o).length+1) (wY (h.Objs.length:Int),o,zV h o,((zV h o).length:Int),0,h,a7,met,o::w,())=some (.brk (wY (h.Objs.length:Int),h,a7,met',o::w++added',())):=e1
   have hidx:xt (o::w) 0=some 0:=by rw [wP (by omega) (by simp)];rfl
   rw [xr,uF,zj,if_pos (by simp),hidx,Option.bind_some]
   simp only [List.getElem?_cons_zero,Option.bind_some,zq3,Bool.not_true,cond_false]
   rw [zU (a:=o-1) (by omega) (by omega),w8 (by omega),eo,Option.bind_some,es,zsq e1 (by have:vH=18446744073709551616:=rfl;omega)]
   dsimp only [Option.bind_some]
   rw [List.cons_append,zsB,Option.bind_some,Option.bind_some]
   dsimp only
   rw [List.cons_append] at e2
   exact ih met' (w++added') (by simp at e3 hz ⊢;omega) (by simp at e3 hz2 ⊢;omega) (e2.rm e5) m (by omega)
theorem zEj (o:Int):mt (List.replicate 64 (0:Int)) o=0:=by
 unfold mt
 rw [List.getD_eq_getElem?_getD,List.getElem?_replicate];split<;>rfl
theorem zAs {h:zt} {a1:BitVec 64} {a5:List Int}: ∀(n i:Nat) (l met:List Int),l.length-i=n→i≤l.length→l.length<1000000→(∀o∈l,1≤o∧o≤9)→met.length=64→(∀o,1≤o→mt met o=if o∈l.take i then 1 else 0)→∀m,n<m →
  ∃met',xr ZC m (a1,(l.length:Int),(i:Int),h,a5,met,l,())=some (.brk (a1,h,a5,met',l,()))∧met'.length=64∧∀o,1≤o→mt met' o=if o∈l then 1 else 0:=by
 intro n
 induction n with
 | zero =>
  intro i l met hk hi hl hr hm ht m hm2
  obtain ⟨m,rfl⟩: ∃x,m=x+1:=⟨m-1,by omega⟩
  have e:i=l.length:=by omega
  subst e
  rw [List.take_length] at ht
  refine ⟨met,?_,hm,ht⟩
  rw [xr,Xb,zj,if_neg (by omega)];rfl
 | succ n ih =>
  intro i l met hk hi hl hr hm ht m hm2
  obtain ⟨m,rfl⟩: ∃x,m=x+1:=⟨m-1,by omega⟩
  have hx:=List.getElem?_eq_getElem (show i<l.length by omega)
  generalize hxv:l[i]'(by omega)=v at hx
  have hv:=hr v (List.mem_of_getElem? hx)
  have htk:l.take (i+1)=l.take i++[v]:=by rw [List.take_add_one,hx];rfl
  rw [xr,Xb,zj,if_pos (by omega),wP (by omega) (by omega),Option.bind_some,Int.toNat_natCast,hx,Option.bind_some,zU (a:=v-1) (by omega) (by omega),zqr (by omega) (by omega) (by omega),Option.bind_some,zU (a:=(i:Int)+1) (by omega) (by omega),Option.bind_some]
  obtain ⟨met',e1,e2⟩:=ih (i+1) l (met.set (v-1).toNat 1) (by omega) (by omega) hl hr (by rw [List.length_set];exact hm) (fun o ho=>by
   rw [zj3 (by omega) ho,ht o ho,htk]
   by_cases e:o=v
   ·rw [if_pos e,if_pos (by rw [e];simp)]
   ·rw [if_neg e]
    by_cases e2:o∈l.take i
    ·rw [if_pos e2,if_pos (List.mem_append_left _ e2)]
    ·rw [if_neg e2,if_neg (fun h=>(List.mem_append.1 h).elim e2 (fun h=>e (by simpa using h)))]) m (by omega)
  refine ⟨met',?_,e2⟩
  have:((i+1:Nat):Int)=(i:Int)+1:=by omega
  rw [←this]
  exact e1
theorem zzL {met:List Int} (hl:met.length=64): ∃S,zcw met=some (S,())∧∀o,zY S o=true↔1≤o∧0<mt met o:=by
 rw [zoN,zj,if_pos hl]
 have key:=xU (f:=U9) (fun a=>∃(i:Nat) (S:BitVec 64),i≤64∧a=(S,met,(i:Int),())∧∀o,zY S o=true↔(1≤o∧o≤(i:Int))∧0<mt met o) (fun a=>64-a.2.2.1.toNat) (fun o=>∃S,o= .brk (S,())∧∀o,zY S o=true↔1≤o∧0<mt met o) (by
  rintro _ ⟨i,S,hi,rfl,hS⟩
  rw [zlZ,zj]
  by_cases c:(i:Int)<64
  ·have hx:=zuf (met:=met) (o:=(i:Int)+1) (by omega)
   rw [show ((i:Int)+1-1).toNat=i by omega] at hx
   rw [if_pos c,zqr (by omega) (by omega) c,Option.bind_some,Int.toNat_natCast,hx,Option.bind_some,zj,zU (a:=(i:Int)+1) (by omega) (by omega),zeL,Option.bind_some]
   by_cases hp:0<mt met ((i:Int)+1)
   ·rw [if_pos hp]
    refine ⟨_,rfl,⟨i+1,_,by omega,rfl,fun o=> ?_⟩,?_⟩
    ·dsimp only
     rw [wa _ (by omega),hS o]
     constructor
     ·rintro (⟨a,b⟩ | rfl)
      ·exact ⟨by omega,b⟩
      ·exact ⟨by omega,hp⟩
     ·rintro ⟨a,b⟩
      by_cases e:o=(i:Int)+1
      ·exact .inr e
      ·exact .inl ⟨by omega,b⟩
    ·show 64-((i:Int)+1).toNat<64-(i:Int).toNat
     omega
   ·rw [if_neg hp]
    refine ⟨_,rfl,⟨i+1,S,by omega,rfl,fun o=> ?_⟩,?_⟩
    ·rw [hS o]
     constructor
     ·rintro ⟨a,b⟩;exact ⟨by omega,b⟩
     ·rintro ⟨a,b⟩
      by_cases e:o=(i:Int)+1
      ·rw [e] at b;exact absurd b hp
      ·exact ⟨by omega,b⟩
    ·show 64-((i:Int)+1).toNat<64-(i:Int).toNat
     omega
  ·rw [if_neg c]
   refine ⟨_,rfl,S,rfl,fun o=> ?_⟩
   rw [hS o]
   have hi:i=64:=by omega
   subst hi
   constructor
   ·rintro ⟨a,b⟩;exact ⟨a.1,b⟩
   ·rintro ⟨a,b⟩
    refine ⟨⟨a,?_⟩,b⟩
    by_cases h:64<o
    ·exfalso
     unfold mt at b
     rw [List.getD_eq_getElem?_getD,List.getElem?_eq_none (by omega)] at b
     exact absurd b (by show ¬(0:Int)<0;decide)
    ·show o≤64;omega) (0#64,met,0,()) ⟨0,0#64,by omega,rfl,fun o=>⟨fun e=>absurd e (WW o),fun e=>by have:=e.1;omega⟩⟩ (by show 64-0<18446744073709551616;decide)
 obtain ⟨o,e,S,rfl,hS⟩:=key
 refine ⟨S,?_,hS⟩
 exact congrArg (fun o=>Option.bind o _) e
theorem zxZ {h:zt} (hn:h.Objs.length≤9) (hs: ∀l∈h.Objs,l.length<1000000) (R:BitVec 64): ∃S,zaL h R=some (S,())∧∀o,zY S o=true↔Reach h R o:=by
 have hso: ∀o,(zV h o).length<1000000:=fun o=>by
  unfold zV
  rw [List.getD_eq_getElem?_getD]
  cases hx:h.Objs[(o-1).toNat]? with
  | none=>show ([]:List Int).length<_;simp
  | some l=>exact hs l (List.mem_of_getElem? hx)
 have hF:=fun o=>zol hn o
 have hA: ∀o,zY (R&&&wY (h.Objs.length:Int)) o=true↔zY R o=true∧1≤o∧o≤(h.Objs.length:Int):=fun o=>by rw [zcx,hF]
 have h9: ∀o,zY (R&&&wY (h.Objs.length:Int)) o=true→o≤9:=fun o e=>by have:=(hA o).1 e;omega
 have hw:=zBB (R&&&wY (h.Objs.length:Int))
 have hwl:=zv9 (R&&&wY (h.Objs.length:Int))
 generalize hwd:uI (R&&&wY (h.Objs.length:Int))=wait at hw hwl
 obtain ⟨met,e1,m1,m2⟩:=zAs (h:=h) (a1:=wY (h.Objs.length:Int)) (a5:=List.replicate 64 (0:Int)) wait.length 0 wait (List.replicate 64 (0:Int)) rfl (Nat.zero_le _) (by omega) (fun o ho=>by have:=(hw o).1 ho;omega) (by simp) (fun o _=>by rw [zEj];simp) (wait.length+1) (by omega)
 have hz:=zCU met
 have I:RI h R met wait:=by
  refine ⟨m1,fun o ho=> ?_,fun o ho hp=> ?_,fun o ho hr=> ?_,fun o ho=> ?_,fun o ho hp hno=> ?_,by omega⟩
  ·rw [m2 o ho];split<;>omega
  ·rw [m2 o ho] at hp
   split at hp
   ·rename_i hm
    have a:=(hA o).1 ((hw o).1 hm).2.2
    exact .root o a.1 a.2
   ·omega
  ·rw [m2 o hr.1,if_pos ((hw o).2 ⟨hr.1,by omega,(hA o).2 ⟨ho,hr⟩⟩)];decide
  ·have a:=(hA o).1 ((hw o).1 ho).2.2
   refine ⟨a.2,?_⟩
   rw [m2 o a.2.1,if_pos ho];decide
  ·rw [m2 o ho,if_neg hno] at hp;omega
 obtain ⟨met',e2,I'⟩:=zDr (a7:=List.replicate 64 (0:Int)) hn hso (wait.length+2*Wh met) met wait (Nat.le_refl _) (by omega) I (wait.length+2*Wh met+1) (by omega)
 obtain ⟨S,e3,hS⟩:=zzL I'.len
 refine ⟨S,?_,fun o=> ?_⟩
 ·have hrd:vH=18446744073709551616:=rfl
  have ew:Yj h R=some (met',()):=by
   rw [zc6,zvR _ (by omega),Option.bind_some,zCl h9,Option.bind_some,hwd]
   refine (congrArg (fun o=>Option.bind o _) (zsq e1 (by omega))).trans ?_
   rw [Option.bind_some]
   dsimp only
   refine (congrArg (fun o=>Option.bind o _) (zsq e2 (by omega))).trans ?_
   rw [Option.bind_some]
   dsimp only
   rw [zj,zj,zj,if_pos I'.len,if_pos (by simp),if_pos I'.len]
  rw [ztk,ew,Option.bind_some,e3];rfl
 ·rw [hS o]
  constructor
  ·rintro ⟨a,b⟩;exact I'.rc o a b
  ·intro r
   induction r with
   | root o h1 h2=>exact ⟨h2.1,I'.rt o h1 h2⟩
   | step o v _ h2 h3 ih=>exact ⟨h3.1,I'.cl o ih.1 ih.2 (by simp) v h2 h3⟩
def zqE (h:zt) (R:BitVec 64):BitVec 64:=match zaL h R with | some x=>x.1 | none=>0#64
theorem zBj {h:zt} (hn:h.Objs.length≤9) (hs: ∀l∈h.Objs,l.length<1000000) (R:BitVec 64):zaL h R=some (zqE h R,()):=by
 obtain ⟨S,e,_⟩:=zxZ hn hs R
 unfold zqE
 rw [e]
theorem zB5 {h:zt} (hn:h.Objs.length≤9) (hs: ∀l∈h.Objs,l.length<1000000) (R:BitVec 64) (o:Int):zY (zqE h R) o=true↔Reach h R o:=by
 obtain ⟨S,e,h2⟩:=zxZ hn hs R
 unfold zqE
 rw [e]
 exact h2 o
end
end Go.Pe.G
namespace Go.Pe.G
open Go.Pe
noncomputable section
theorem zxX (s:BitVec 64):List.Pairwise (fun a b:Int=>a≤b) (uI s):=by
 unfold uI
 rw [List.pairwise_map]
 refine (List.Pairwise.filter _ (List.pairwise_lt_range (n:=9))).imp (fun h=> ?_)
 omega
theorem zrs (s:BitVec 64):(uI s).Nodup:=by
 unfold uI
 have:List.Pairwise (fun a b:Int=>a≠b) (((List.range 9).filter fun i=>s.getLsbD i).map fun i:Nat=>(i:Int)+1):=by
  rw [List.pairwise_map]
  refine (List.Pairwise.filter _ (List.pairwise_lt_range (n:=9))).imp (fun h=> ?_)
  omega
 exact this
theorem zln {s:BitVec 64} {o:Int}:o∈uI s↔zY s o=true∧o≤9:=by
 unfold uI
 rw [List.mem_map]
 constructor
 ·rintro ⟨i,hi,rfl⟩
  rw [List.mem_filter,List.mem_range] at hi
  refine ⟨(xC _ _).2 ⟨by omega,by omega,?_⟩,by omega⟩
  rw [show ((i:Int)+1-1).toNat=i by omega];exact hi.2
 ·rintro ⟨h,h9⟩
  obtain ⟨a,b,c⟩:=(xC _ _).1 h
  exact ⟨(o-1).toNat,List.mem_filter.2 ⟨List.mem_range.2 (by omega),c⟩,by omega⟩
def zf2 (s:za):BitVec 64:=s.T.Marks&&& ~~~s.T.Black
theorem zv3 {s:za} (o:Int):zY (zf2 s) o=true↔wT s.T o=1:=by
 unfold zf2
 rw [zcx,WZ]
 constructor
 ·rintro ⟨a,b⟩
  have:=(xC _ _).1 a
  exact ⟨a,(zrK _ ⟨this.1,this.2.1⟩).1 b⟩
 ·rintro ⟨a,b⟩
  have:=(xC _ _).1 a
  exact ⟨a,(zrK _ ⟨this.1,this.2.1⟩).2 b⟩
theorem zDm {p:zb} (h:zB p) {nb k:Nat} {s:za} {gh:Gh} (G:FG p nb k s gh):List.Perm (vP p s gh) (uI (zf2 s)):=by
 refine (List.perm_ext_iff_of_nodup G.B.nd (zrs _)).2 (fun o=> ?_)
 rw [zln,zv3,G.B.gr]
 exact ⟨fun e=>⟨e,((G.bag9 h).2 o ((G.B.gr o).2 e)).2⟩,fun e=>e.1⟩
theorem zDz {p:zb} (h:zB p) {nb k:Nat} {s:za} {gh:Gh} (G:FG p nb k s gh):ua (vP p s gh)=uI (zf2 s) :=
 zqa (zbI _) (zxX _) ((WY _).trans (zDm h G))
theorem zr6 {p:zb} (h:zB p) {k:Nat} {s:za} {gh:Gh} (G:FG p (zQ p+1) k s gh):Vi s=some (uI (zf2 s),()):=by
 rw [zCc h G,zDz h G]
theorem zE7 {p:zb} (h:zB p) {nb k:Nat} {s:za} {gh:Gh} (G:FG p nb k s gh): ∀o,zY (zf2 s) o=true→o≤9:=fun o ho=>((G.bag9 h).2 o ((G.B.gr o).2 ((zv3 o).1 ho))).2
def atS (g:zu) (a b v:Int):Int:=if g.Out=0 then (if a≤g.PC then (if g.PC≤b then v else 0) else 0) else 0
theorem zBW (g:zu):zmp g=some (atS g 0 1 g.Obj,()):=by
 rw [zux,zi1]
 simp only [zj]
 unfold atS
 split
 ·split
  ·split<;>rfl
  ·rfl
 ·rfl
def zjE (x:zc):Prop:=x.PC=21∨x.PC=22∨(x.Ret=22∧(x.PC=1∨x.PC=3))
instance (x:zc):Decidable (zjE x):=by unfold zjE;infer_instance
def zuX (a:BitVec 64) (x:zc):BitVec 64:=if zjE x then (a|||Ut x.Buf)|||bit x.Old else a|||Ut x.Buf
def zsN (s:za):BitVec 64:=s.Ms.foldl zuX ((uP s).foldl (fun a g=>a|||bit (atS g 0 1 g.Obj)) 0#64)
theorem zek {s:za} (hs:Yp s) (h1:s.Ws.length≤100) (h2:s.Ms.length≤100):XI s=some (zsN s,()):=by
 rw [zq6,zoF h1 h2,Option.bind_some]
 dsimp only
 have hl:(uP s).length≤200:=by
  unfold uP
  rw [List.length_append,List.length_map,List.length_map]
  have:=List.length_filter_le (fun x:zh=>decide (x.PC=6)) s.Ws
  have:=List.length_filter_le (fun x:zc=>decide (x.PC=3∨x.PC=37)) s.Ms
  omega
 obtain ⟨e,_⟩:=Zo (f:=Xh) (fun j r=>(r,((uP s).length:Int),j,s,uP s,())) (fun r=>(r,s,())) (uP s) (by omega) (fun (a:BitVec 64) g=>a|||bit (atS g 0 1 g.Obj)) (fun _ _=>True) (s:=0#64) trivial
  (fun i r x hx hi hr=>by
   refine ⟨trivial,?_⟩
   show Xh (r,((uP s).length:Int),(i:Int),s,uP s,())=_
   rw [zej,zj,if_pos (by omega),wP (by omega) (by omega),Option.bind_some,Int.toNat_natCast,hx,Option.bind_some,zBW,Option.bind_some,zeL,Option.bind_some,yw (by omega)])
  (fun r hr=>by
   show Xh (r,((uP s).length:Int),((uP s).length:Int),s,uP s,())=_
   rw [zej,zj,if_neg (by omega)])
 rw [e,Option.bind_some]
 dsimp only
 obtain ⟨e,_⟩:=Zo (f:=Xi) (fun j r=>(r,s.Ms,(s.Ms.length:Int),j,())) (fun r=>(r,())) s.Ms (by omega) zuX (fun _ _=>True) (s:=(uP s).foldl (fun (a:BitVec 64) g=>a|||bit (atS g 0 1 g.Obj)) 0#64) trivial
  (fun i r x hx hi hr=>by
   refine ⟨trivial,?_⟩
   show Xi (r,s.Ms,(s.Ms.length:Int),(i:Int),())=_
   rw [zdi,zj,if_pos (by omega),xp hx,Option.bind_some,ztK (hs.mu x (List.mem_of_getElem? hx)).2.1,Option.bind_some,yw (by omega),zeL,Option.bind_some]
   simp only [zj]
   unfold zuX
   by_cases c1:x.PC=21
   ·rw [if_pos c1,if_pos (show zjE x from .inl c1)]
   rw [if_neg c1]
   by_cases c2:x.PC=22
   ·rw [if_pos c2,if_pos (show zjE x from .inr (.inl c2))]
   rw [if_neg c2]
   by_cases c3:x.Ret=22
   ·rw [if_pos c3]
    by_cases c4:x.PC=1
    ·rw [if_pos c4,if_pos (show zjE x from .inr (.inr ⟨c3,.inl c4⟩))]
    rw [if_neg c4]
    by_cases c5:x.PC=3
    ·rw [if_pos c5,if_pos (show zjE x from .inr (.inr ⟨c3,.inr c5⟩))]
    ·rw [if_neg c5,if_neg (show ¬zjE x by unfold zjE;omega)]
   ·rw [if_neg c3,if_neg (show ¬zjE x by unfold zjE;omega)])
  (fun r hr=>by
   show Xi (r,s.Ms,(s.Ms.length:Int),(s.Ms.length:Int),())=_
   rw [zdi,zj,if_neg (by omega)])
 rw [e];rfl
def ztT (a:BitVec 64) (l:List zc):BitVec 64:=l.foldl (fun a x=>a|||Ut x.Regs) a
theorem zvL {s:za} (hs:Yp s):zf1 s=some (ztT 0#64 s.Ms,()):=by
 have hl:=hs.ms
 rw [zvC]
 obtain ⟨e,_⟩:=Zo (f:=VG) (fun j r=>(r,s.Ms,(s.Ms.length:Int),j,())) (fun r=>(r,())) s.Ms hl (fun (a:BitVec 64) x=>a|||Ut x.Regs) (fun _ _=>True) (s:=0#64) trivial
  (fun i r x hx hi hr=>by
   refine ⟨trivial,?_⟩
   show VG (r,s.Ms,(s.Ms.length:Int),(i:Int),())=_
   rw [zhW,zj,if_pos (by omega),xp hx,Option.bind_some,ztK (hs.mu x (List.mem_of_getElem? hx)).1,Option.bind_some,yw (by omega)])
  (fun r hr=>by
   show VG (r,s.Ms,(s.Ms.length:Int),(s.Ms.length:Int),())=_
   rw [zhW,zj,if_neg (by omega)])
 rw [e];rfl
def zt6 (s:za):BitVec 64:=zqE s.H (s.P.Roots|||ztT 0#64 s.Ms)
theorem zvZ {s:za} (hs:Yp s) (hn:s.H.Objs.length≤9):zfQ s=some (zt6 s,()):=by
 rw [zuL,zvL hs,Option.bind_some,zBj hn hs.obj,Option.bind_some];rfl
def zmi (x:zh):Bool:= !decide (x.Obj=0)||decide (0<(x.Batch.length:Int))
def zob (x:zc):Bool:= !decide (x.Obj=0)||decide (0<(x.Batch.length:Int)+(x.Buf.length:Int))
theorem zD6 {l:List zh} (hl:l.length<1000000):yO l=some (l.any zmi,()):=by
 rw [uU,Zg]
 obtain ⟨o,e,ho⟩:=xU (f:=yN) (fun a=>∃i:Nat,i≤l.length∧a=(l,(l.length:Int),(i:Int),())∧l.any zmi=(l.drop i).any zmi) (fun a=>l.length-a.2.2.1.toNat) (fun o=>(o= .brk ()∧l.any zmi=false)∨∃i:Nat,o= .ret ((i:Int),())∧l.any zmi=true) (by
  rintro _ ⟨i,hi,rfl,ha⟩
  rw [uT,zj]
  by_cases c1:(i:Int)<(l.length:Int)
  ·have hx:=List.getElem?_eq_getElem (show i<l.length by omega)
   have hd:=List.drop_eq_getElem_cons (show i<l.length by omega)
   generalize l[i]'(by omega)=x at hx hd
   rw [hd,List.any_cons] at ha
   have hq:zeX x=some (zmi x,()):=by
    rw [zqM];unfold zmi
    cases decide (x.Obj=0)<;>rfl
   rw [if_pos c1,xp hx,Option.bind_some,hq,Option.bind_some]
   cases hc:zmi x with
   | true=>exact ⟨_,rfl,.inr ⟨i,rfl,by rw [ha,hc];rfl⟩⟩
   | false =>
    rw [yw (by omega)]
    refine ⟨_,rfl,⟨i+1,by omega,rfl,by rw [ha,hc];rfl⟩,?_⟩
    show l.length-((i+1:Nat):Int).toNat<l.length-(i:Int).toNat
    omega
  ·rw [if_neg c1]
   have:i=l.length:=by omega
   subst this
   rw [List.drop_length] at ha
   exact ⟨_,rfl,.inl ⟨rfl,ha⟩⟩) (l,(l.length:Int),0,()) ⟨0,by omega,rfl,rfl⟩ (by show l.length-0<18446744073709551616;omega)
 rw [e]
 rcases ho with ⟨rfl,hn⟩ | ⟨i,rfl,hn⟩
 ·rw [hn];rfl
 ·rw [hn]
  show some (decide ((0:Int)≤(i:Int)),())=_
  rw [decide_eq_true (by omega)]
theorem zEr {l:List zc} (hl:l.length<1000000) (hb: ∀x∈l,x.Buf.length<1000000∧x.Batch.length<1000000):yH l=some (l.any zob,()):=by
 rw [uy,u0]
 obtain ⟨o,e,ho⟩:=xU (f:=yI) (fun a=>∃i:Nat,i≤l.length∧a=(l,(l.length:Int),(i:Int),())∧l.any zob=(l.drop i).any zob) (fun a=>l.length-a.2.2.1.toNat) (fun o=>(o= .brk ()∧l.any zob=false)∨∃i:Nat,o= .ret ((i:Int),())∧l.any zob=true) (by
  rintro _ ⟨i,hi,rfl,ha⟩
  rw [uC,zj]
  by_cases c1:(i:Int)<(l.length:Int)
  ·have hx:=List.getElem?_eq_getElem (show i<l.length by omega)
   have hd:=List.drop_eq_getElem_cons (show i<l.length by omega)
   have hm:=List.getElem_mem (show i<l.length by omega)
   generalize l[i]'(by omega)=x at hx hd hm
   rw [hd,List.any_cons] at ha
   have hbx:=hb x hm
   have hq:zfy x=some (zob x,()):=by
    rw [zrd,zU (by omega) (by omega)];unfold zob
    cases decide (x.Obj=0)<;>rfl
   rw [if_pos c1,xp hx,Option.bind_some,hq,Option.bind_some]
   cases hc:zob x with
   | true=>exact ⟨_,rfl,.inr ⟨i,rfl,by rw [ha,hc];rfl⟩⟩
   | false =>
    rw [yw (by omega)]
    refine ⟨_,rfl,⟨i+1,by omega,rfl,by rw [ha,hc];rfl⟩,?_⟩
    show l.length-((i+1:Nat):Int).toNat<l.length-(i:Int).toNat
    omega
  ·rw [if_neg c1]
   have:i=l.length:=by omega
   subst this
   rw [List.drop_length] at ha
   exact ⟨_,rfl,.inl ⟨rfl,ha⟩⟩) (l,(l.length:Int),0,()) ⟨0,by omega,rfl,rfl⟩ (by show l.length-0<18446744073709551616;omega)
 rw [e]
 rcases ho with ⟨rfl,hn⟩ | ⟨i,rfl,hn⟩
 ·rw [hn];rfl
 ·rw [hn]
  show some (decide ((0:Int)≤(i:Int)),())=_
  rw [decide_eq_true (by omega)]
def zs9 (s:za):Bool:=(uI (zf2 s)).isEmpty&& !(s.Ws.any zmi)&& !(s.Ms.any zob)
theorem zuo {p:zb} (h:zB p) {k:Nat} {s:za} {gh:Gh} (G:FG p (zQ p+1) k s gh):zdp s=some (zs9 s,()):=by
 have hs:=G.E.small
 rw [ztJ,zr6 h G,Option.bind_some,zD6 hs.ws,Option.bind_some,zEr hs.ms (fun x hx=>(hs.mu x hx).2),Option.bind_some]
 unfold zs9
 dsimp only
 cases hl:uI (zf2 s) with
 | nil =>
  show (bif decide ((0:Int)=0) then _ else _)=_
  rw [decide_eq_true rfl,cond_true]
  cases s.Ws.any zmi<;>rfl
 | cons a l =>
  rw [decide_eq_false (show ¬(((a::l).length:Nat):Int)=0 by rw [List.length_cons];omega)];rfl
end
end Go.Pe.G
namespace Go.Pe.G
open Go.Pe
noncomputable section
theorem zC7: ∀t:Fin 64,cnt (BitVec.ofNat 64 t.1)=((Wi (BitVec.ofNat 64 t.1)).length:Int):=by decide +kernel
theorem zCx {s:BitVec 64} (h:s&&& ~~~63#64=0#64):cnt s=((Wi s).length:Int):=by
 have hs:s.toNat<64:=by
  have e:s=s&&&63#64:=by
   have:s=(s&&&63#64)|||(s&&& ~~~63#64):=by
    apply BitVec.eq_of_getLsbD_eq
    intro i hi
    simp only [BitVec.getLsbD_or,BitVec.getLsbD_and,BitVec.getLsbD_not]
    cases s.getLsbD i<;>cases (63#64:BitVec 64).getLsbD i<;>simp [hi]
   rw [h,BitVec.or_zero] at this
   exact this
  rw [e,BitVec.toNat_and]
  have:s.toNat&&&(63#64:BitVec 64).toNat≤(63#64:BitVec 64).toNat:=Nat.and_le_right
  have e63:(63#64:BitVec 64).toNat=63:=by decide
  omega
 have:=zC7 ⟨s.toNat,hs⟩
 have e:BitVec.ofNat 64 s.toNat=s:=by simp
 rw [e] at this
 exact this
theorem zsK {p:zb} (h:zB p):EG p (zQ p+1) 0 (yv p) (gh0 p):=by
 have hms: ∀x∈(yv p).Ms,x.PC=0:=fun x hx=>by
  obtain ⟨r,_,e⟩:=List.mem_map.1 (show x∈p.Regs.map vG from hx)
  rw [←e];rfl
 have hws: ∀x∈(yv p).Ws,∃i:Nat,x=ux p i:=fun x hx=>by
  obtain ⟨j,_,e⟩:=List.mem_map.1 (show x∈(List.range p.Workers.toNat).map (ux p) from hx)
  exact ⟨j,e.symm⟩
 have z: ∀ {l:List Int},(∀v∈l,v=0)→l.sum=0:=fun {l} h=>by
  induction l with
  | nil=>rfl
  | cons a l ih=>rw [List.sum_cons,h a (List.mem_cons_self ..),ih (fun v hv=>h v (List.mem_cons_of_mem _ hv))];rfl
 have ho:U3 (yv p)=0:=by
  unfold U3
  rw [z (fun v hv=>by
   obtain ⟨x,hx,rfl⟩:=List.mem_map.1 hv
   obtain ⟨i,rfl⟩:=hws x hx
   rfl),z (fun v hv=>by
   obtain ⟨x,hx,rfl⟩:=List.mem_map.1 hv
   have:=hms x hx
   unfold owX;rw [if_neg (by omega),if_neg (by omega)])]
  rfl
 have hold1:(yv p).Ms.flatMap (zW (yv p))=[]:=zaW (fun x hx=>by
  obtain ⟨r,_,e⟩:=List.mem_map.1 (show x∈p.Regs.map vG from hx)
  rw [←e]
  unfold zW
  rw [uq ⟨by show (0:Int)≠3;decide,by show (0:Int)≠33;decide,by show (0:Int)≠36;decide,by show (0:Int)≠37;decide,by show (0:Int)≠38;decide⟩];rfl)
 have hold2:(yv p).Ws.flatMap (zJ (yv p))=[]:=zaW (fun x hx=>by
  obtain ⟨i,rfl⟩:=hws x hx
  have hb:ux p i=VV p ((i:Int)+1) (ux p i):=rfl
  unfold zJ
  rw [hb,ziD];rfl)
 have hb:vP p (yv p) (gh0 p)=Wi (Z9 p):=by
  unfold vP
  rw [hold1,hold2,List.append_nil,List.append_nil,zzS h]
 have hc:=zCx (zfK h)
 have hw:(yv p).Work=cnt (Z9 p):=rfl
 have hl:=zlf h
 have hn:=h.n
 exact ⟨zFH h,by rw [hb,ho,hw,hc];omega,by rw [hw,hc];omega⟩
end
end Go.Pe.G
namespace Go.Pe.G
open Go.Pe
noncomputable section
namespace B19
theorem zxg {p:zb} (hp:zB p) {nb:Nat}: ∀(l:List zg) {k:Nat} {s:za} {gh:Gh},(∀x∈l,YB p x)→k+l.length<2147480000→EG p nb k s gh→∃k' gh',k'≤k+l.length∧EG p nb k' (uG s l).1 gh'
 | [],k,s,gh,_,_,I=>⟨k,gh,by simp,I⟩
 | x::l,k,s,gh,hx,hk,I=>by
  rw [List.length_cons] at hk
  rw [zpR]
  split
  ·exact ⟨k,gh,by simp,I⟩
  ·obtain ⟨gh',I',_⟩:=I.next hp (by omega) (zlg p x)
   rw [←zwk hp I.G.E (hx x (List.mem_cons_self ..))] at I'
   obtain ⟨k',gh2,h1,h2⟩:=zxg hp l (fun y hy=>hx y (List.mem_cons_of_mem _ hy)) (by omega) I'
   exact ⟨k',gh2,by rw [List.length_cons];omega,h2⟩
theorem zwa {p:zb} (hp:zB p) {nb:Nat} {l:List zg} (hl: ∀x∈l,YB p x) (hlen:l.length≤10): ∀(n:Nat) {k:Nat} {s:za} {gh:Gh},k+10*n<2147480000→EG p nb k s gh→∃k' gh',k'≤k+10*n∧EG p nb k' (uv l n s).1 gh'
 | 0,k,s,gh,_,I=>⟨k,gh,by omega,I⟩
 | n+1,k,s,gh,hk,I=>by
  rw [zpy]
  split
  ·exact ⟨k,gh,by omega,I⟩
  ·obtain ⟨k1,gh1,h1,I1⟩:=zxg hp l hl (by omega) I
   obtain ⟨k',gh',h2,I2⟩:=zwa hp hl hlen n (by omega) I1
   exact ⟨k',gh',by omega,I2⟩
theorem zDx {p:zb} (hp:zB p) {n m:Nat} (hn:(n:Int)=p.Workers) (hm:(m:Int)=p.Mutators):(∀x∈Xg n m,YB p x)∧(Xg n m).length≤10:=by
 have hw:=hp.wk
 have hmt:=hp.mt
 refine ⟨fun x hx=> ?_,by simp [Xg,zli];omega⟩
 have hp': ∀k n,x∈zah k n→x.Kind=k∧1≤x.N∧x.N≤(n:Int):=fun k n h=>by
  obtain ⟨i,hi,rfl⟩:=List.mem_map.1 (show x∈(List.range n).map _ from h)
  have:=List.mem_range.1 hi
  exact ⟨rfl,by show (1:Int)≤(i:Int)+1;omega,by show (i:Int)+1≤(n:Int);omega⟩
 rcases List.mem_append.1 (show x∈(⟨0,0⟩::zah 1 n)++zah 2 m from hx) with h | h
 ·rcases List.mem_cons.1 h with rfl | h
  ·exact .inl ⟨rfl,rfl⟩
  ·have:=hp' 1 n h;exact .inr (.inl ⟨this.1,this.2.1,by omega⟩)
 ·have:=hp' 2 m h;exact .inr (.inr ⟨this.1,this.2.1,by omega⟩)
theorem zDU {p:zb} {nb k:Nat} {s:za} {gh:Gh} (G:FG p nb k s gh) (h:yf (ld s.M (zZ p))=0):gh.F=[]:=by
 have c:=G.X.L.cF
 rw [h] at c
 cases hf:gh.F with
 | nil=>rfl
 | cons y l =>
  rw [hf] at c
  have c:_∧_:=c
  omega
theorem zxo {p:zb} (h:zB p) {nb k:Nat} {s:za} {gh:Gh} (G:FG p nb k s gh) {x:zh} (hx:s.Ws[0]? =some x) (h0:x.PC≠0):u7 s 1=some (ua (zJ s x++XO s.M (zI p 1) p.Cap ⟨0,0,0,0,0#64,0#64,0,0⟩),()):=by
 have hwk:=h.wk
 have:=zrh h G hx
 have D:=G.X.D 1 (by omega) (by omega)
 have hc:=(G.W 0 x hx).c0 h0
 rw [show ((0:Nat):Int)+1=1 from rfl] at this hc
 rw [hc] at D
 rw [zog h (by omega) D (fun e=>absurd e.1 (by show ¬(0:Int)=2;decide))]
 exact this
theorem zCi {A B D:Type} {f:A→Option (yA A B D)} {x y:A} {b:B} (h1:f x=some (.again y)) (h:f y=some (.brk b)):zO f x=some (.brk b):=by
 rw [XW]
 show xr f (18446744073709551614+1+1) x=_
 rw [xr,h1,Option.bind_some]
 dsimp only
 rw [xr,h];rfl
def zw9:List zm:=[⟨1,1,0,0⟩,⟨5,1,0,0⟩,⟨2,1,0,0⟩]
def pEx:zb:=⟨1,1,2,1,1,4,2,2,⟨1,[[2],[0],[0]]⟩,1#64,[[1,0]],[zw9],[]⟩
theorem zCW:zax [zw9]=some (pEx,()):=by
 rw [zm1,zCi (by rw [zaN,zj,if_pos (by decide),yp (by decide),Option.bind_some,w8 (by decide)];simp only [Int.toNat_zero,List.getElem?_cons_zero,Option.bind_some];rw [yp (by decide),Option.bind_some,zU (by decide) (by decide)]) (by rw [zaN,zj,if_neg (by decide)])];rfl
theorem UY:zB pEx:=by
 constructor
 case objs=>intro o ho;simp [pEx] at ho ⊢;rcases ho with rfl | rfl | rfl<;>simp
 case roots=>exact ⟨1,by decide,by decide,by decide⟩
 case reg=>intro r hr;simp [pEx] at hr ⊢;subst hr;simp
 case prog =>
  intro k r ops hr ho
  cases k with
  | succ k=>cases ho
  | zero =>
   injection hr with hr
   injection ho with ho
   subst hr;subst ho
   refine ⟨by decide,fun o h=> ?_⟩
   simp [zw9] at h
   rcases h with rfl | rfl | rfl
   ·exact ⟨by decide,.inl ⟨.inl rfl,by decide,by decide⟩⟩
   ·exact ⟨by decide,.inr (.inr ⟨.inr rfl,rfl,rfl⟩)⟩
   ·exact ⟨by decide,.inl ⟨.inr rfl,by decide,by decide⟩⟩
 all_goals first | decide | rfl
def mEx:List zg:=[⟨2,1⟩]
def wEx:List zg:=[⟨1,1⟩,⟨1,1⟩,⟨1,1⟩,⟨1,1⟩,⟨1,1⟩,⟨1,1⟩,⟨1,1⟩]
def aEx:za:=(List.replicate 6 ()).foldl (fun r _=>(uG r mEx).1) (yv pEx)
def bEx:za:=(uG aEx mEx).1
def cEx:za:=(uG bEx mEx).1
def dEx:za:=(uv (Xg 1 1) 900 cEx).1
def vEx:za:=(uG (yv pEx) wEx).1
theorem zxB: ∀x∈mEx,YB pEx x:=fun x hx=>by rw [List.mem_singleton.1 hx];exact .inr (.inr ⟨rfl,by decide,by decide⟩)
theorem zFD: ∀x∈wEx,YB pEx x:=fun x hx=>by
 have:x=⟨1,1⟩:=by simpa [wEx] using hx
 rw [this];exact .inr (.inl ⟨rfl,by decide,by decide⟩)
def EGx (k:Nat) (s:za):Prop:=∃k' gh,k'≤k∧EG pEx (zQ pEx+1) k' s gh
theorem zqA {k:Nat} {s:za} (h:EGx k s) (hk:k<1000000) {l:List zg} (hl: ∀x∈l,YB pEx x) (hlen:l.length≤10):EGx (k+10) (uG s l).1:=by
 obtain ⟨k',gh,h1,I⟩:=h
 obtain ⟨k2,gh2,h2,I2⟩:=zxg UY l hl (by omega) I
 exact ⟨k2,gh2,by omega,I2⟩
theorem zE1:EGx 60 aEx:=by
 have h0:EGx 0 (yv pEx):=⟨0,gh0 pEx,by omega,zsK UY⟩
 have go: ∀(n:Nat) {k:Nat} {s:za},k+10*n<1000000→EGx k s→EGx (k+10*n) ((List.replicate n ()).foldl (fun r _=>(uG r mEx).1) s):=by
  intro n
  induction n with
  | zero=>intro k s _ h;exact h
  | succ n ih =>
   intro k s hk h
   rw [List.replicate_succ,List.foldl_cons]
   have:=ih (k:=k+10) (by omega) (zqA h (by omega) zxB (by decide))
   rwa [show k+10+10*n=k+10*(n+1) by omega] at this
 exact go 6 (by omega) h0
theorem zE2:EGx 70 bEx:=zqA zE1 (by omega) zxB (by decide)
theorem zE6:EGx 80 cEx:=zqA zE2 (by omega) zxB (by decide)
theorem zGh:EGx 10 vEx:=zqA ⟨0,gh0 pEx,by omega,zsK UY⟩ (by omega) zFD (by decide)
theorem zGl:EGx 10000 dEx:=by
 obtain ⟨k,gh,h1,I⟩:=zE6
 obtain ⟨a,b⟩:=zDx UY (n:=1) (m:=1) rfl rfl
 obtain ⟨k',gh',h2,I2⟩:=zwa UY a b 900 (by omega) I
 exact ⟨k',gh',by omega,I2⟩
theorem zEm:zO wO (mEx,0,yv pEx,yv pEx,())=some (.brk (mEx,yv pEx,aEx,())):=by
 have E0:=zBX UY
 have:=Zo (f:=wO) (fun j r=>(mEx,j,yv pEx,r,())) (fun r=>(mEx,yv pEx,r,())) (List.replicate 6 ()) (by decide) (fun r _=>(uG r mEx).1) (fun _ r=>EOk pEx (zQ pEx+1) r) (s:=yv pEx) E0
  (fun i r x hx hi E=>by
   have hi:i<6:=by simpa using hi
   refine ⟨zyU UY mEx E,?_⟩
   show wO (mEx,(i:Int),yv pEx,r,())=_
   rw [Ud,zj,if_pos (by omega),zeh UY E (by decide),Option.bind_some,yw (by omega)])
  (fun r E=>by
   show wO (mEx,6,yv pEx,r,())=_
   rw [Ud,zj,if_neg (by decide)])
 exact this.1
theorem zEJ (a b:List Int) (ha:a.length<1000000):ZU a b=some (decide (a=b),()):=by
 rw [zn8,yq]
 by_cases hl:a.length=b.length
 rotate_left
 ·rw [if_neg (by omega),decide_eq_false (fun e=>hl (by rw [e]))]
 rw [if_pos (by omega)]
 obtain ⟨o,e,ho⟩:=xU (f:=Up) (fun c=>∃i:Nat,i≤a.length∧c=(a,b,(i:Int),())∧(a=b↔a.drop i=b.drop i)) (fun c=>a.length-c.2.2.1.toNat) (fun o=>(o= .brk ()∧a=b)∨(o= .ret (false,())∧a≠b)) (by
  rintro _ ⟨i,hi,rfl,h⟩
  rw [zkP,zj]
  by_cases c1:(i:Int)<(a.length:Int)
  ·have hx:=List.getElem?_eq_getElem (show i<a.length by omega)
   have hy:=List.getElem?_eq_getElem (show i<b.length by omega)
   have dx:=List.drop_eq_getElem_cons (show i<a.length by omega)
   have dy:=List.drop_eq_getElem_cons (show i<b.length by omega)
   generalize a[i]'(by omega)=x at hx dx
   generalize b[i]'(by omega)=y at hy dy
   rw [dx,dy,List.cons.injEq] at h
   rw [if_pos c1,xp hx,Option.bind_some,xp hy,Option.bind_some,yq]
   by_cases c2:x=y
   ·rw [if_pos c2,yw (by omega)]
    refine ⟨_,rfl,⟨i+1,by omega,rfl,h.trans ⟨fun e=>e.2,fun e=>⟨c2,e⟩⟩⟩,?_⟩
    show a.length-((i+1:Nat):Int).toNat<a.length-(i:Int).toNat
    omega
   ·rw [if_neg c2]
    exact ⟨_,rfl,.inr ⟨rfl,fun e=>c2 (h.1 e).1⟩⟩
  ·rw [if_neg c1]
   have:i=a.length:=by omega
   refine ⟨_,rfl,.inl ⟨rfl,h.2 ?_⟩⟩
   rw [List.drop_of_length_le (by omega),List.drop_of_length_le (by omega)]) (a,b,0,()) ⟨0,by omega,rfl,Iff.rfl⟩ (by show a.length-0<18446744073709551616;omega)
 rw [e]
 rcases ho with ⟨rfl,h⟩ | ⟨rfl,h⟩
 ·rw [decide_eq_true h];rfl
 ·rw [decide_eq_false h];rfl
theorem zxu {h:zt} (hn:h.Objs.length≤9) (hs: ∀l∈h.Objs,l.length<1000000) (R S:BitVec 64) (h1: ∀o,Reach h R o↔zY S o=true):zqE h R=S:=zuU (fun o=>(zB5 hn hs R o).trans (h1 o))
theorem zvu {o:Int}:zY 1#64 o=true↔o=1:=by
 rw [show (1#64:BitVec 64)=bit 1 by decide]
 exact ⟨fun e=>zxj e,fun e=>by rw [e];decide⟩
theorem zGv {o:Int}:zY 3#64 o=true↔o=1∨o=2:=by
 rw [show (3#64:BitVec 64)=1#64|||bit 2 by decide,wa _ (by decide),zvu]
theorem zDB:zt6 (yv pEx)=3#64:=by
 have eR:(yv pEx).P.Roots|||ztT 0#64 (yv pEx).Ms=1#64:=by decide +kernel
 have eH:(yv pEx).H=⟨1,[[2],[0],[0]]⟩:=rfl
 unfold zt6
 rw [eR,eH]
 refine zxu (by decide) (by intro l hl;simp at hl;rcases hl with rfl | rfl | rfl<;>decide) _ _ (fun o=> ?_)
 rw [zGv]
 constructor
 ·intro r
  induction r with
  | root o h1 h2=>exact .inl (zvu.1 h1)
  | step o v _ h2 h3 ih =>
   rcases ih with rfl | rfl
   ·have h2:v∈([2]:List Int):=h2
    exact .inr (List.mem_singleton.1 h2)
   ·have h2:v∈([0]:List Int):=h2
    have:=List.mem_singleton.1 h2
    omega
 ·have r1:Reach ⟨1,[[2],[0],[0]]⟩ 1#64 1:= .root 1 (zvu.2 rfl) (by decide)
  rintro (rfl | rfl)
  ·exact r1
  ·exact .step 1 2 r1 (by show (2:Int)∈([2]:List Int);decide) (by decide)
theorem zFo:zt6 cEx=1#64:=by
 have eR:cEx.P.Roots|||ztT 0#64 cEx.Ms=1#64:=by decide +kernel
 have eH:cEx.H=⟨1,[[0],[0],[0]]⟩:=by kernel_rfl
 unfold zt6
 rw [eR,eH]
 refine zxu (by decide) (by intro l hl;simp at hl;subst hl;decide) _ _ (fun o=> ?_)
 rw [zvu]
 constructor
 ·intro r
  induction r with
  | root o h1 h2=>exact zvu.1 h1
  | step o v _ h2 h3 ih =>
   subst ih
   have h2:v∈([0]:List Int):=h2
   have:=List.mem_singleton.1 h2
   omega
 ·rintro rfl
  exact .root 1 (zvu.2 rfl) (by decide)
theorem zw3:VZ=some (true,()):=by
 have h:=UY
 have I0:=zsK UY
 have E0:=I0.G.E
 obtain ⟨ka,ga,_,Ia⟩:=zE1
 obtain ⟨kb,gb,_,Ib⟩:=zE2
 obtain ⟨kc,gc,_,Ic⟩:=zE6
 obtain ⟨kd,gd,_,Id⟩:=zGl
 obtain ⟨kv,gv,_,Iv⟩:=zGh
 have sa:=Ia.G.E
 have sb:=Ib.G.E
 have sc:=Ic.G.E
 have lw: ∀ {s:za},EOk pEx (zQ pEx+1) s→s.Ws.length≤100∧s.Ms.length≤100:=fun E=>by
  have a:((_:Nat):Int)=1:=E.wl
  have b:((_:Nat):Int)=1:=E.ml
  omega
 have rb:uZ aEx mEx=some (bEx,(uG aEx mEx).2,()):=zeh h sa (by decide)
 have rc:uZ bEx mEx=some (cEx,(uG bEx mEx).2,()):=zeh h sb (by decide)
 have rd:zan cEx 900=some (dEx,(uv (Xg 1 1) 900 cEx).2,()):=by
  have e1:cEx.Ws.length=1:=by have:=sc.wl;have:((cEx.Ws.length:Nat):Int)=1:=this;omega
  have e2:cEx.Ms.length=1:=by have:=sc.ml;have:((cEx.Ms.length:Nat):Int)=1:=this;omega
  have:=zwX h sc (most:=900) (by decide)
  rw [e1,e2] at this
  exact this
 have rv:uZ (yv pEx) wEx=some (vEx,(uG (yv pEx) wEx).2,()):=zeh h E0 (by decide)
 have hv:ZN vEx=some ([],()):=by
  rw [(znR h Iv.G).1,zDU Iv.G (by decide +kernel)];rfl
 have hl0:ZN (yv pEx)=some ([1],()):=by
  rw [(znR h I0.G).1]
  have:ua ((gh0 pEx).F.flatMap (yu (yv pEx)))=[1]:=by decide +kernel
  rw [this]
 have hh0:Vi (yv pEx)=some ([1],()):=by
  rw [zr6 h I0.G]
  have:uI (zf2 (yv pEx))=[1]:=by decide +kernel
  rw [this]
 have hw1:u7 vEx 1=some ([1],()):=by
  obtain ⟨x,hx⟩: ∃x,vEx.Ws[0]? =some x:=⟨_,List.getElem?_eq_getElem (show 0<vEx.Ws.length by have:=Iv.G.E.wl;have:((vEx.Ws.length:Nat):Int)=1:=this;omega)⟩
  have hc:(vEx.Ws[0]?).map (fun x=>decide (x.PC≠0))=some true:=by decide +kernel
  have hd:(vEx.Ws[0]?).map (fun x=>ua (zJ vEx x++XO vEx.M (zI pEx 1) pEx.Cap ⟨0,0,0,0,0#64,0#64,0,0⟩))=some [1]:=by decide +kernel
  rw [hx,Option.map_some,Option.some.injEq] at hc hd
  rw [zxo h Iv.G hx (by simpa using hc),hd]
 have hw2:u7 (yv pEx) 2=some ([],()):=by
  rw [zkp,zj,if_neg (by decide),zj,if_pos (by decide +kernel)]
 have hm1:XG (yv pEx) 1=some ([],()):=by
  obtain ⟨x,hx⟩: ∃x,(yv pEx).Ms[0]? =some x:=⟨_,rfl⟩
  have hd:((yv pEx).Ms[0]?).map (fun x=>ua (zW (yv pEx) x))=some []:=by decide +kernel
  rw [hx,Option.map_some,Option.some.injEq] at hd
  have:=zpe h I0.G hx
  rw [hd] at this
  exact this
 have p0:zsN (yv pEx)=0#64:=by decide +kernel
 have pa:zsN aEx=2#64:=by decide +kernel
 have pb:zsN bEx=2#64:=by decide +kernel
 have pc:zsN cEx=2#64:=by decide +kernel
 have g0:ztT 0#64 (yv pEx).Ms=1#64:=by decide +kernel
 have dd:dEx.Done=true:=by decide +kernel
 have dq:zs9 dEx=true:=by decide +kernel
 have dm:dEx.T.Marks=3#64:=by decide +kernel
 have q0:zs9 (yv pEx)=false:=by decide +kernel
 have o0:U3 (yv pEx)=0:=by decide +kernel
 have s1:ZU [1] [1]=some (true,()):=by rw [zEJ _ _ (by decide)];rfl
 have nO: ∀ {s:za},EOk pEx (zQ pEx+1) s→s.H.Objs.length≤9:=fun E=>by
  have a:=E.H.n
  have b:pEx.Most=4:=rfl
  omega
 rw [zjZ,show ([([zm.mk 1 1 0 0,zm.mk 5 1 0 0,zm.mk 2 1 0 0]:List zm)]:List (List zm))=[zw9] from rfl,zCW,Option.bind_some,zvQ h,Option.bind_some]
 dsimp only
 rw [show ([zg.mk 2 1]:List zg)=mEx from rfl,zEm,Option.bind_some]
 dsimp only
 rw [rb,Option.bind_some]
 dsimp only
 rw [rc,Option.bind_some]
 dsimp only
 rw [rd,Option.bind_some]
 rw [show ([zg.mk 1 1,zg.mk 1 1,zg.mk 1 1,zg.mk 1 1,zg.mk 1 1,zg.mk 1 1,zg.mk 1 1]:List zg)=wEx from rfl,rv,Option.bind_some,hh0,Option.bind_some]
 dsimp only
 rw [s1,Option.bind_some,cond_true,hl0,Option.bind_some]
 dsimp only
 rw [s1,Option.bind_some,cond_true,zek E0.small (lw E0).1 (lw E0).2,Option.bind_some,p0]
 dsimp only
 rw [decide_eq_true rfl,cond_true,zvZ E0.small (nO E0),Option.bind_some,zDB]
 dsimp only
 rw [decide_eq_true rfl,cond_true,zvL E0.small,Option.bind_some,g0]
 dsimp only
 rw [decide_eq_true rfl,cond_true,zek sa.small (lw sa).1 (lw sa).2,Option.bind_some,pa]
 dsimp only
 rw [decide_eq_true rfl,cond_true,zek sb.small (lw sb).1 (lw sb).2,Option.bind_some,pb]
 dsimp only
 rw [decide_eq_true rfl,cond_true,zvZ sc.small (nO sc),Option.bind_some,zFo]
 dsimp only
 rw [decide_eq_true rfl,cond_true,zek sc.small (lw sc).1 (lw sc).2,Option.bind_some,pc]
 dsimp only
 rw [decide_eq_true rfl,cond_true,dd,cond_true,zuo h Id.G,Option.bind_some,dq]
 dsimp only
 rw [cond_true,dm,decide_eq_true rfl,cond_true,zuo h I0.G,Option.bind_some,q0]
 dsimp only
 rw [Bool.not_false,cond_true,hv,Option.bind_some]
 dsimp only
 rw [hw1,Option.bind_some]
 dsimp only
 rw [s1,Option.bind_some,hw2,Option.bind_some,hm1,Option.bind_some,zB2 (lw E0).1 (lw E0).2,Option.bind_some,o0]
 rfl
theorem zCt {g:BitVec 64} (h: ∀o,zY g o=true→o≤9):Ut (uI g)=g∧cnt g=((uI g).length:Int):=by
 obtain ⟨e1,e2⟩:=zEi (l:=uI g) (fun o ho=>⟨((xC _ _).1 (zln.1 ho).1).1,(zln.1 ho).2⟩) (zrs g)
 have e:Ut (uI g)=g:=zuU (fun o=>(e2 o).trans (zln.trans ⟨fun x=>x.1,fun x=>⟨x,h o x⟩⟩))
 rw [e] at e1
 exact ⟨e,e1⟩
theorem zDW {g:BitVec 64} (h: ∀o,zY g o=true→o≤9):zok (uI g)=some (g,true,()):=by
 obtain ⟨e1,e2⟩:=zCt h
 have hl:(uI g).length≤9:=by
  unfold uI
  rw [List.length_map]
  have:=List.length_filter_le (fun i=>g.getLsbD i) (List.range 9)
  rwa [List.length_range] at this
 rw [zwK,ztK (by omega),Option.bind_some,zv5,Option.bind_some,e1]
 dsimp only
 rw [yq,if_pos e2]
theorem holdOnce_plain (l m:List (BitVec 8)):Zq l m=some (true,()):=by
 obtain ⟨p,ep,h⟩:=zEL l
 obtain ⟨ps,epk,hl,hok⟩:=zDa h m 300 (by decide)
 have epk:WP p m 300=some (ps,()):=epk
 rw [zjU,zw3]
 simp only [Option.bind_some,Bool.not_true,cond_false,ep,zvQ h,epk]
 obtain ⟨e,_⟩:=Zo (f:=uh) (fun j s=>(true,(ps.length:Int),j,s,ps,())) (fun _=>(true,())) ps (by omega) uQ (fun i s=>∃gh,EG p (zQ p+1) i s gh) (s:=yv p) ⟨gh0 p,zsK h⟩
  (fun i s x hx hi ⟨gh,I⟩=>by
   obtain ⟨gh',I',_⟩:=I.next h (by omega) (zlg p x)
   rw [←zwk h I.G.E (hok x (List.mem_of_getElem? hx))] at I'
   refine ⟨⟨gh',I'⟩,?_⟩
   have h9:=zE7 h I'.G
   have hg:(uQ s x).T.Marks&&& ~~~(uQ s x).T.Black=zf2 (uQ s x):=rfl
   show uh (true,(ps.length:Int),(i:Int),s,ps,())=_
   rw [Ua,zj,if_pos (by omega),wP (by omega) (by omega),Option.bind_some,Int.toNat_natCast,hx,Option.bind_some,zrA h I.G.E,Option.bind_some]
   dsimp only
   rw [zr6 h I'.G,Option.bind_some,zDW h9,Option.bind_some]
   dsimp only
   rw [Bool.not_true,cond_false,zsG,Option.bind_some]
   dsimp only
   rw [hg,yq,if_pos rfl,yw (by omega)])
  (fun s _=>by
   show uh (true,(ps.length:Int),(ps.length:Int),s,ps,())=_
   rw [Ua,zj,if_neg (by omega)])
 rw [e];rfl
end B19
end
end Go.Pe.G
