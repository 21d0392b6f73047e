/- Own work of this seat: PAgain, PLaw17. -/
import Derived.Test.YthmdgkhilfpgfaaGreatDoorDGPb
import Derived.Test.YthmdgkhilfpgfaaGreatDoorDGPa
set_option linter.unusedVariables false
set_option linter.unusedSimpArgs false
set_option linter.unnecessarySimpa false
set_option linter.unusedSectionVars false
set_option linter.deprecated false
set_option maxRecDepth 20000
namespace Go.Pe.G
open Go.Pe
noncomputable section
def okG (g:zC):Prop:=g.PC=4→g.Mode=2
theorem zpG {s:za} {g:zC} (h:okG g):okG (zm s g).2:=by
 unfold zm
 split
 ·exact h
 split
 ·rename_i c;unfold Vz;dsimp only;split<;>(intro e;have e:g.PC=4:=e;omega)
 split
 ·intro e;have e:(7:Int)=4:=e;omega
 split
 ·rename_i c
  unfold zdO Uh;dsimp only
  split
  ·intro e;have e:(6:Int)=4:=e;omega
  split
  ·intro e;have e:(5:Int)=4:=e;omega
  ·intro e;have e:g.PC=4:=e;omega
 split
 ·intro e;have e:(5:Int)=4:=e;omega
 split
 ·rename_i c
  unfold zdW Uh;dsimp only
  split
  ·intro e;have e:g.PC=4:=e;omega
  split
  ·intro e;have e:(5:Int)=4:=e;omega
  ·intro e;have e:g.PC=4:=e;omega
 split
 ·rename_i c;intro e;have e:g.PC=4:=e;omega
 split
 ·unfold zdt Uh;dsimp only
  split
  ·intro e;have e:(2:Int)=4:=e;omega
  split
  ·intro e;have e:(3:Int)=4:=e;omega
  split
  ·rename_i c;exact fun _=>c
  ·intro e;have e:(5:Int)=4:=e;omega
 ·intro e;have e:(1:Int)=4:=e;omega
theorem znB (k o m:Int):okG (uZ k o m):=fun e=>by have e:(0:Int)=4:=e;omega
theorem zre {s:za} {g:zC} (h:g.PC≠4):(zm s g).1.Flag=s.Flag:=by
 unfold zm
 repeat' split
 all_goals first
  | rfl
  | exact absurd (by assumption) h
theorem zAT {s:za} {m:Int} {x:zc} (h:okG x.G):okG (zg s m x).2.G:=by
 refine yw (motive:=fun r=>okG r.2.G) s m x ?_ ?_ ?_ ?_ ?_ ?_ ?_ ?_ ?_ ?_ ?_ ?_ ?_ ?_ ?_ ?_ ?_ ?_ ?_ ?_
 all_goals try (intro c)
 ·have:(mu0 s m x).2.G=x.G:=by
   unfold mu0 uY
   repeat' split
   all_goals rfl
  show okG (mu0 s m x).2.G
  rw [this];exact h
 ·unfold mu1;dsimp only;split
  ·exact h
  ·exact znB _ _ _
 ·exact h
 ·unfold mu3;dsimp only;split<;>exact zpG h
 ·exact h
 ·unfold XK;dsimp only;split<;>exact h
 ·unfold Xw;dsimp only;split<;>exact h
 ·unfold Vi;dsimp only;split<;>exact h
 ·exact h
 ·unfold Z4;repeat' split
  all_goals exact h
 ·unfold WR;dsimp only;split<;>exact h
 ·unfold WD;dsimp only;repeat' split
  all_goals exact h
 ·exact h
 ·unfold WN;dsimp only;split<;>exact h
 ·unfold WK;dsimp only;split<;>exact h
 ·unfold Ud;dsimp only;split
  ·exact h
  ·exact znB _ _ _
 ·unfold Y5;dsimp only;split<;>exact zpG h
 ·exact h
 ·exact h
 ·exact h c
theorem zAy {s:za} {w:Int} {x:ze} (h:okG x.G):okG (zj s w x).2.G:=by
 have lk: ∀y:ze,okG y.G→okG (ui s.P w y).G:=fun y hy=>by unfold ui;split<;>exact hy
 unfold zj
 split
 ·dsimp only;split
  ·exact h
  split
  ·exact lk _ h
  ·exact h
 split
 ·dsimp only;split
  ·exact h
  split
  ·exact h
  ·exact h
 split
 ·exact h
 split
 ·dsimp only;split<;>exact h
 split
 ·dsimp only;split
  ·exact h
  ·exact znB _ _ _
 split
 ·dsimp only;split<;>exact zpG h
 split
 ·dsimp only;split<;>exact h
 split
 ·exact h
 split
 ·exact h
 ·exact h
def XQ:List zk→Int
 | []=>0
 | o::l=>(if o.Kind=2 then 1 else 0)+XQ l
theorem zoJ: ∀l,0≤XQ l
 | []=>Int.le_refl _
 | o::l=>by have:=zoJ l;show 0≤(if o.Kind=2 then 1 else 0)+XQ l;split<;>omega
theorem zsp: ∀l:List zk,XQ l≤(l.length:Int)
 | []=>Int.le_refl _
 | o::l=>by have:=zsp l;rw [List.length_cons];show (if o.Kind=2 then 1 else 0)+XQ l≤_;split<;>omega
def wrF (p:zb) (m:Int) (n:Nat):Int:=XQ ((xk p m).drop n)
theorem zuv (p:zb) (m:Int) (n:Nat):wrF p m (n+1)≤wrF p m n:=by
 unfold wrF
 rcases Nat.lt_or_ge n (xk p m).length with h | h
 ·rw [List.drop_eq_getElem_cons h]
  show _≤(if (xk p m)[n].Kind=2 then 1 else 0)+XQ (List.drop (n+1) (xk p m))
  split<;>omega
 ·rw [List.drop_of_length_le (by omega),List.drop_of_length_le (by omega)];exact Int.le_refl _
theorem zyo {p:zb} {m:Int} {x:zc} (h:x.IP.toNat<(xk p m).length) (k:(opM p m x).Kind=2):wrF p m x.IP.toNat=wrF p m (x.IP.toNat+1)+1:=by
 unfold wrF
 rw [List.drop_eq_getElem_cons h]
 have e:opM p m x=(xk p m)[x.IP.toNat]:=by
  unfold opM;rw [List.getD_eq_getElem?_getD,List.getElem?_eq_getElem h];rfl
 rw [e] at k
 rw [XQ,if_pos k];omega
def at4 (x:zc):Prop:=x.PC=3∧x.G.PC=4∧x.G.Out=0
def atR (x:zc):Int:=if x.PC=3∧x.G.Out=0∧x.G.PC≤1 then 1 else 0
def wi (p:zb) (m:Int) (x:zc):Int:=wrF p m (if x.PC=23 then x.IP.toNat+1 else x.IP.toNat)+(x.Buf.length:Int)+atR x
def zoH (p:zb) (m:Int) (x:zc):Prop:=(20≤x.PC∧x.PC≤23)∨((x.PC=1∨x.PC=3)∧x.Ret=22)→(opM p m x).Kind=2
theorem zvn (x:zc):0≤atR x∧atR x≤1:=by unfold atR;split<;>decide
theorem zd4 {x:zc} (h:x.PC≠3):atR x=0:=by unfold atR;rw [if_neg (by omega)]
theorem zBC (p:zb) (m:Int) (x:zc):0≤wi p m x:=by
 unfold wi
 have:=zvn x
 have:=zoJ ((xk p m).drop (if x.PC=23 then x.IP.toNat+1 else x.IP.toNat))
 unfold wrF;omega
theorem vc {p:zb} {m:Int} {x y:zc} (e1:y.IP=x.IP) (e2:y.Buf=x.Buf) (h:x.PC≠3∧x.PC≠23∧y.PC≠3∧y.PC≠23):wi p m y≤wi p m x:=by
 unfold wi
 rw [zd4 h.1,zd4 h.2.2.1,if_neg h.2.1,if_neg h.2.2.2,e1,e2];exact Int.le_refl _
theorem zjb {p:zb} {m:Int} {x y:zc} (hi:0≤x.IP∧x.IP≤1000) (e1:y.IP=wc (x.IP+1)) (e2:y.Buf=x.Buf) (h:x.PC≠3∧y.PC=0):wi p m y≤wi p m x:=by
 have w:(wc (x.IP+1)).toNat=x.IP.toNat+1:=by rw [xf (by omega) (by omega)];omega
 unfold wi
 rw [zd4 h.1,zd4 (by omega),if_neg (by omega),e1,e2,w]
 have:=zuv p m x.IP.toNat
 split<;>omega
theorem zAv {s:za} {g:zC} (g0:g.Out=0) (gm:1≤g.Mode∧g.Mode≤3) (hpc:1≤g.PC∧g.PC≤7):2≤(zm s g).2.PC∧(g.PC≠1→(zm s g).2.PC≠4):=by
 unfold zm
 rw [if_neg (by omega)]
 split
 ·rename_i c;unfold Vz;dsimp only;split<;>(dsimp only;omega)
 split
 ·show 2≤(7:Int)∧(_→(7:Int)≠4);omega
 split
 ·rename_i c;unfold zdO Uh;dsimp only;repeat' split
  all_goals (dsimp only;omega)
 split
 ·show 2≤(5:Int)∧(_→(5:Int)≠4);omega
 split
 ·rename_i c;unfold zdW Uh;dsimp only;repeat' split
  all_goals (dsimp only;omega)
 split
 ·rename_i c;show 2≤g.PC∧(_→g.PC≠4);omega
 split
 ·rename_i c;unfold zdt Uh;dsimp only;repeat' split
  all_goals (dsimp only;omega)
 ·omega
theorem zyf {p:zb} {nb:Nat} {s:za} {m:Int} {x:zc} (hP:s.P=p) (hl:((xk p m).length:Int)≤64) (O:XOk p nb m x) (K:zoH p m x) (ok:okG x.G) (p3:x.PC=3→x.G.Mode=2∧x.G.Out=0∧0≤x.G.PC∧x.G.PC≤7) (p37:x.PC=37→x.G.Mode=3) :
  zoH p m (zg s m x).2∧((x.PC=3∧wi p m (zg s m x).2+1≤wi p m x)∨(wi p m (zg s m x).2≤wi p m x∧((zg s m x).1.Flag=s.Flag∨at4 x)∧(at4 (zg s m x).2→at4 x))):=by
 have hip:=O.ip
 have hop:=O.op
 have hret:=O.ret
 have hi:0≤x.IP∧x.IP≤1000:=by omega
 have res: ∀ {t:za} {y:zc},t.Flag=s.Flag→((20≤y.PC∧y.PC≤23)∨((y.PC=1∨y.PC=3)∧y.Ret=22)→(opM p m y).Kind=2)→wi p m y≤wi p m x→y.PC≠3→zoH p m y∧((x.PC=3∧wi p m y+1≤wi p m x)∨(wi p m y≤wi p m x∧(t.Flag=s.Flag∨at4 x)∧(at4 y→at4 x))) :=
  fun hf hk ht h3=>⟨hk,.inr ⟨ht,.inl hf,fun h=>absurd h.1 h3⟩⟩
 have opi: ∀ {y:zc},y.IP=x.IP→opM p m y=opM p m x:=fun e=>by unfold opM;rw [e]
 have hon: ∀i,onM s i=36∨onM s i=38:=Zr s
 refine yw (motive:=fun r=>zoH p m r.2∧((x.PC=3∧wi p m r.2+1≤wi p m x)∨(wi p m r.2≤wi p m x∧(r.1.Flag=s.Flag∨at4 x)∧(at4 r.2→at4 x)))) s m x ?_ ?_ ?_ ?_ ?_ ?_ ?_ ?_ ?_ ?_ ?_ ?_ ?_ ?_ ?_ ?_ ?_ ?_ ?_ ?_
 all_goals try (intro c)
 ·unfold mu0 uY
  split
  ·refine res rfl (fun h=> ?_) (vc rfl rfl (by dsimp only;omega)) (by dsimp only;omega)
   dsimp only at h;omega
  split
  ·exact res rfl (fun h=>by have h:(20≤x.PC∧x.PC≤23)∨((x.PC=1∨x.PC=3)∧x.Ret=22):=h;omega) (vc rfl rfl ⟨by omega,by omega,by show x.PC≠3;omega,by show x.PC≠23;omega⟩) (by show x.PC≠3;omega)
  split
  ·refine res rfl (fun h=> ?_) (vc rfl rfl (by dsimp only;omega)) (by dsimp only;omega)
   dsimp only at h;omega
  split
  ·rename_i hk
   refine res rfl (fun h=> ?_) (vc rfl rfl (by dsimp only;omega)) (by dsimp only;omega)
   rw [hP] at hk
   rw [opi (y:={x with PC:=20}) rfl];exact hk
  split
  ·refine res rfl (fun h=> ?_) (vc rfl rfl (by dsimp only;omega)) (by dsimp only;omega)
   dsimp only at h;omega
  split
  all_goals
   refine res rfl (fun h=> ?_) (zjb hi rfl rfl ⟨by omega,rfl⟩) (by dsimp only [setM];omega)
   dsimp only [setM] at h;omega
 ·have hr:=hret (.inl c)
  unfold mu1;dsimp only
  split
  ·refine res rfl (fun h=> ?_) (vc rfl rfl (by dsimp only;omega)) (by dsimp only;omega)
   dsimp only at h
   rw [opi (y:={x with PC:=x.Ret}) rfl];exact K (.inr ⟨.inl c,by omega⟩)
  ·rename_i hb
   refine ⟨fun h=> ?_,.inr ⟨?_,.inl rfl,fun h=> ?_⟩⟩
   ·have h:(20≤(3:Int)∧(3:Int)≤23)∨(((3:Int)=1∨(3:Int)=3)∧x.Ret=22):=h
    show (opM p m x).Kind=2
    exact K (.inr ⟨.inl c,by omega⟩)
   ·unfold wi
    rw [zd4 (x:=x) (by omega),if_neg (by show ¬(3:Int)=23;decide),if_neg (by omega)]
    have:atR {x with PC:=3,Buf:=x.Buf.take (x.Buf.length-1),G:=uZ 2 (x.Buf.getD (x.Buf.length-1) 0) m}=1:=by
     unfold atR;rw [if_pos ⟨rfl,rfl,by show (0:Int)≤1;decide⟩]
    rw [this]
    show wrF p m x.IP.toNat+((x.Buf.take (x.Buf.length-1)).length:Int)+1≤_
    rw [List.length_take];omega
   ·have h:(0:Int)=4:=h.2.1
    omega
 ·unfold mu2
  refine res rfl (fun h=> ?_) (vc rfl rfl (by dsimp only;omega)) (by dsimp only;omega)
  dsimp only at h;omega
 ·obtain ⟨g2,g0,gl,gh⟩:=p3 c
  have hr:=hret (.inr c)
  have kk: ∀ {y:zc},y.IP=x.IP→y.Ret=x.Ret→(y.PC=1∨y.PC=3)→zoH p m y:=fun e1 e2 e3 h=>by
   rw [opi e1];exact K (.inr ⟨.inr c,by omega⟩)
  have one: ∀ {y:zc},y.IP=x.IP→y.Buf=x.Buf→(y.PC=1∨y.PC=3)→atR y+1≤atR x→wi p m y+1≤wi p m x:=fun e1 e2 e3 h=>by
   unfold wi
   rw [if_neg (by omega),if_neg (by omega),e1,e2];omega
  have zero: ∀ {y:zc},y.IP=x.IP→y.Buf=x.Buf→(y.PC=1∨y.PC=3)→atR y≤atR x→wi p m y≤wi p m x:=fun e1 e2 e3 h=>by
   unfold wi
   rw [if_neg (by omega),if_neg (by omega),e1,e2];omega
  unfold mu3;dsimp only
  by_cases c0:x.G.PC=0
  ·have e:zm s x.G=({s with Work:=wc (s.Work+1)},{x.G with PC:=1}):=by
    unfold zm
    rw [if_neg (by omega),if_neg (by omega),if_neg (by omega),if_neg (by omega),if_neg (by omega),if_neg (by omega),if_neg (by omega),if_neg (by omega)]
   rw [e];dsimp only
   rw [if_neg (by omega)]
   have ar:atR x=1:=by unfold atR;rw [if_pos ⟨c,g0,by omega⟩]
   refine ⟨kk rfl rfl (.inr c),.inr ⟨zero rfl rfl (.inr c) ?_,.inl rfl,fun h=> ?_⟩⟩
   ·rw [ar];exact (zvn _).2
   ·have h:(1:Int)=4:=h.2.1
    omega
  ·have hp2:=zAv (s:=s) g0 (by omega) (show 1≤x.G.PC∧x.G.PC≤7 by omega)
   have ar: ∀ {y:zc},y.G=(zm s x.G).2→atR y=0:=fun e=>by
    unfold atR;rw [e,if_neg (by omega)]
   by_cases c1:x.G.PC=1
   ·have ax:atR x=1:=by unfold atR;rw [if_pos ⟨c,g0,by omega⟩]
    split
    ·exact ⟨kk rfl rfl (.inl rfl),.inl ⟨c,one rfl rfl (.inl rfl) (by rw [ax,ar rfl];decide)⟩⟩
    ·exact ⟨kk rfl rfl (.inr c),.inl ⟨c,one rfl rfl (.inr c) (by rw [ax,ar rfl];decide)⟩⟩
   ·have hf:(zm s x.G).1.Flag=s.Flag∨at4 x:=by
     by_cases c4:x.G.PC=4
     ·exact .inr ⟨c,c4,g0⟩
     ·exact .inl (zre c4)
    have a0:=(zvn x).1
    split
    ·refine ⟨kk rfl rfl (.inl rfl),.inr ⟨zero rfl rfl (.inl rfl) (by rw [ar rfl];exact a0),hf,fun h=> ?_⟩⟩
     have h:(1:Int)=3:=h.1
     omega
    ·exact ⟨kk rfl rfl (.inr c),.inr ⟨zero rfl rfl (.inr c) (by rw [ar rfl];exact a0),hf,fun h=>absurd h.2.1 (hp2.2 c1)⟩⟩
 ·unfold zbH
  refine res rfl (fun h=> ?_) (zjb hi rfl rfl ⟨by omega,rfl⟩) (by dsimp only [setM];omega)
  dsimp only [setM] at h;omega
 ·unfold XK;dsimp only
  split
  ·refine res rfl (fun h=> ?_) (zjb hi rfl rfl ⟨by omega,rfl⟩) (by dsimp only [yP];omega)
   dsimp only [yP] at h;omega
  ·refine res rfl (fun h=> ?_) (vc rfl rfl (by dsimp only;omega)) (by dsimp only;omega)
   show (opM p m x).Kind=2;exact K (.inl (by omega))
 ·unfold Xw;dsimp only
  split
  ·refine res rfl (fun h=> ?_) ?_ (by dsimp only;omega)
   ·show (opM p m x).Kind=2;exact K (.inl (by omega))
   ·unfold wi
    rw [zd4 (x:=x) (by omega),zd4 (by dsimp only;omega),if_pos rfl,if_neg (by omega)]
    have:=zuv p m x.IP.toNat
    dsimp only;omega
  ·refine res rfl (fun h=> ?_) (vc rfl rfl (by dsimp only;omega)) (by dsimp only;omega)
   show (opM p m x).Kind=2;exact K (.inl (by omega))
 ·unfold Vi;dsimp only
  split
  ·refine res rfl (fun h=> ?_) (vc rfl rfl (by dsimp only;omega)) (by dsimp only;omega)
   show (opM p m x).Kind=2;exact K (.inl (by omega))
  ·refine res rfl (fun h=> ?_) ?_ (by dsimp only;omega)
   ·show (opM p m x).Kind=2;exact K (.inl (by omega))
   ·unfold wi
    rw [zd4 (x:=x) (by omega),zd4 (by dsimp only;omega),if_pos rfl,if_neg (by omega)]
    have hlt:=hop (.inl (by omega))
    have:=zyo (p:=p) (m:=m) (x:=x) (by omega) (K (.inl (by omega)))
    show wrF p m (x.IP.toNat+1)+((x.Buf++[x.Old]).length:Int)+0≤_
    rw [List.length_append,List.length_singleton];omega
 ·unfold zaR
  refine res rfl (fun h=> ?_) (zjb hi rfl rfl ⟨by omega,rfl⟩) (by dsimp only [yP];omega)
  dsimp only [yP] at h;omega
 ·unfold Z4
  split
  ·split
   all_goals
    refine res rfl (fun h=> ?_) (zjb hi rfl rfl ⟨by omega,rfl⟩) (by dsimp only [setM,yP];omega)
    dsimp only [setM,yP] at h;omega
  ·refine res rfl (fun h=> ?_) (vc rfl rfl (by dsimp only;omega)) (by dsimp only;omega)
   dsimp only at h;omega
 ·unfold WR;dsimp only;split
  all_goals
   refine res rfl (fun h=> ?_) (vc rfl rfl (by dsimp only;omega)) (by dsimp only;omega)
   dsimp only at h;omega
 ·unfold WD;dsimp only;repeat' split
  all_goals
   refine res rfl (fun h=> ?_) (vc rfl rfl (by dsimp only;omega)) (by dsimp only;omega)
   dsimp only at h;omega
 ·unfold zbO
  refine res rfl (fun h=> ?_) (vc rfl rfl (by dsimp only;omega)) (by dsimp only;omega)
  dsimp only at h;omega
 ·unfold WN;dsimp only;split
  all_goals
   refine res rfl (fun h=> ?_) (vc rfl rfl (by dsimp only;omega)) (by dsimp only;omega)
   dsimp only at h;omega
 ·unfold WK;dsimp only;split
  all_goals
   refine res rfl (fun h=> ?_) (vc rfl rfl (by dsimp only;omega)) (by dsimp only;omega)
   dsimp only at h;omega
 ·unfold Ud;dsimp only
  have:=hon (wc (x.Slot+1))
  split
  all_goals
   refine res rfl (fun h=> ?_) (vc rfl rfl (by dsimp only;omega)) (by dsimp only;omega)
   dsimp only at h;omega
 ·unfold Y5;dsimp only
  have:=hon x.Slot
  have hf:(zm s x.G).1.Flag=s.Flag:=zre (fun h=>by have:=ok h;have:=p37 c;omega)
  split
  all_goals
   refine res hf (fun h=> ?_) (vc rfl rfl (by dsimp only;omega)) (by dsimp only;omega)
   dsimp only at h;omega
 ·unfold zcF
  refine res rfl (fun h=> ?_) (vc rfl rfl (by dsimp only;omega)) (by dsimp only;omega)
  dsimp only at h;omega
 ·unfold zd9
  refine res rfl (fun h=> ?_) (vc rfl rfl (by dsimp only;omega)) (by dsimp only;omega)
  dsimp only at h;omega
 ·exact ⟨K,.inr ⟨Int.le_refl _,.inl rfl,id⟩⟩
def Ur (p:zb):Int→List zc→Int
 | _,[]=>0
 | m,x::l=>wi p m x+Ur p (m+1) l
theorem zsx (p:zb): ∀(l:List zc) (m:Int),0≤Ur p m l
 | [],_=>Int.le_refl _
 | x::l,m=>by unfold Ur;have:=zBC p m x;have:=zsx p l (m+1);omega
theorem zvS {p:zb} {x y:zc}: ∀(l:List zc) (m:Int) (i:Nat),l[i]? =some x→Ur p m (l.set i y)=Ur p m l-wi p (m+i) x+wi p (m+i) y
 | [],_,_,h=>by cases h
 | z::l,m,0,h=>by
  injection h with h;subst h
  show wi p m y+Ur p (m+1) l=(wi p m z+Ur p (m+1) l)-wi p (m+(0:Nat)) z+wi p (m+(0:Nat)) y
  rw [show m+((0:Nat):Int)=m by omega];omega
 | z::l,m,i+1,h=>by
  have h:l[i]? =some x:=h
  have:=zvS (p:=p) (x:=x) (y:=y) l (m+1) i h
  show wi p m z+Ur p (m+1) (l.set i y)=(wi p m z+Ur p (m+1) l)-wi p (m+(i+1:Nat)) x+wi p (m+(i+1:Nat)) y
  rw [this,show m+((i+1:Nat):Int)=m+1+(i:Int) by omega];omega
def wrP (p:zb):Int:=(p.Progs.map XQ).sum
theorem zuV {p:zb}: ∀(R:List (List Int)) (k:Nat),k+R.length≤p.Progs.length→Ur p ((k:Int)+1) (R.map xh)=(((p.Progs.drop k).take R.length).map XQ).sum
 | [],k,_=>by simp [Ur]
 | r::R,k,h=>by
  rw [List.length_cons] at h
  have ih:=zuV (p:=p) R (k+1) (by omega)
  rw [List.drop_eq_getElem_cons (show k<p.Progs.length by omega),List.length_cons,List.take_succ_cons,List.map_cons (f:=XQ),List.sum_cons,←ih]
  show wi p ((k:Int)+1) (xh r)+Ur p ((k:Int)+1+1) (R.map xh)=_
  have e1:wi p ((k:Int)+1) (xh r)=XQ (p.Progs[k]):=by
   unfold wi atR xh wrF xk
   dsimp only
   rw [if_neg (by decide),if_neg (by omega),show ((k:Int)+1-1).toNat=k by omega,List.getD_eq_getElem?_getD,List.getElem?_eq_getElem (show k<p.Progs.length by omega)]
   show XQ (List.drop 0 p.Progs[k])+0+0=_
   rw [List.drop_zero];omega
  rw [e1,show ((k+1:Nat):Int)+1=(k:Int)+1+1 by omega]
def d4 (s:za):Prop:=∃(i:Nat) (x:zc),s.Ms[i]? =some x∧at4 x
structure TI (p:zb) (s:za):Prop where
 ok: ∀x∈s.Ms,okG x.G
 wk: ∀x∈s.Ws,okG x.G
 kd: ∀(i:Nat) x,s.Ms[i]? =some x→zoH p ((i:Int)+1) x
 pot: ∃a b:Int,0≤a∧0≤b∧(1≤s.D.PC→s.Flag=true∨d4 s→1≤a)∧(s.D.PC≠1→d4 s→1≤b)∧s.Restarts+a+b+2*Ur p 1 s.Ms≤2*wrP p
 ep:(s.D.PC≤2∧s.Epoch=s.Restarts)∨(3≤s.D.PC∧s.Epoch=s.Restarts+1)
 rs:0≤s.Restarts
theorem zvg {p:zb} (hp:zA p):0≤wrP p∧wrP p≤100000:=by
 have key: ∀l:List (List zk),(∀q∈l,(q.length:Int)≤64)→0≤(l.map XQ).sum∧(l.map XQ).sum≤64*(l.length:Int):=fun l=>by
  induction l with
  | nil=>intro _;exact ⟨Int.le_refl _,Int.le_refl _⟩
  | cons q l ih =>
   intro h
   have:=ih (fun r hr=>h r (List.mem_cons_of_mem _ hr))
   have h1:=h q (List.mem_cons_self ..)
   have h2:=zsp q
   have h3:=zoJ q
   rw [List.map_cons,List.sum_cons,List.length_cons]
   omega
 have hm:=hp.mt
 have hr:=hp.regs
 have hg:=hp.progs
 have:=key p.Progs (fun q hq=>by
  obtain ⟨i,hi⟩:=List.mem_iff_getElem?.1 hq
  have:=zee hp ((i:Int)+1)
  unfold xk at this
  rw [show ((i:Int)+1-1).toNat=i by omega,List.getD_eq_getElem?_getD,hi] at this
  exact this)
 unfold wrP
 omega
theorem TI.det {p:zb} (hp:zA p) {nb k:Nat} {s:za} {gh:Gh} {W:Int→Int→Prop} (hk:k<1000000) (Q:DI p nb k s gh W) (T:TI p s) (hd:s.Done=false):TI p (zD s):=by
 have hf:=zc2 s
 have eX:(zD s).Ms=s.Ms:=by conv=>rhs;rw [←hf]
 have eW:(zD s).Ws=s.Ws:=by conv=>rhs;rw [←hf]
 have hDP:=Q.I.G.E.D
 have hwr:=zvg hp
 have htk:=zsx p s.Ms 1
 have ⟨a,b,ha,hb,h1,h2,h3⟩:=T.pot
 have hrs:=T.rs
 have hep:=T.ep
 have d4e: ∀ {t:za},t.Ms=s.Ms→(d4 t↔d4 s):=fun e=>by unfold d4;rw [e]
 suffices h: ∀t:za,zD s=t→((∃a b:Int,0≤a∧0≤b∧(1≤t.D.PC→t.Flag=true∨d4 s→1≤a)∧(t.D.PC≠1→d4 s→1≤b)∧t.Restarts+a+b+2*Ur p 1 s.Ms≤2*wrP p)∧((t.D.PC≤2∧t.Epoch=t.Restarts)∨(3≤t.D.PC∧t.Epoch=t.Restarts+1))∧0≤t.Restarts) by
  obtain ⟨k1,k2,k3⟩:=h _ rfl
  refine ⟨by rw [eX];exact T.ok,by rw [eW];exact T.wk,by rw [eX];exact T.kd,?_,k2,k3⟩
  rw [eX]
  obtain ⟨a,b,ha,hb,h1,h2,h3⟩:=k1
  exact ⟨a,b,ha,hb,fun c e=>h1 c (e.imp id (d4e eX).1),fun c e=>h2 c ((d4e eX).1 e),h3⟩
 intro t et
 have same: ∀ {t:za},t.Flag=s.Flag→t.Restarts=s.Restarts→(2≤s.D.PC∧2≤t.D.PC)→(∃a b:Int,0≤a∧0≤b∧(1≤t.D.PC→t.Flag=true∨d4 s→1≤a)∧(t.D.PC≠1→d4 s→1≤b)∧t.Restarts+a+b+2*Ur p 1 s.Ms≤2*wrP p):=fun e1 e2 e3 =>
  ⟨a,b,ha,hb,fun _ h=>h1 (by omega) (by rw [←e1];exact h),fun _ h=>h2 (by omega) h,by rw [e2];exact h3⟩
 have again:s.D.PC=4∨s.D.PC=5→(s.Flag=true∨d4 s)→t={s with Restarts:=wc (s.Restarts+1),D:={s.D with PC:=0}}→((∃a b:Int,0≤a∧0≤b∧(1≤t.D.PC→t.Flag=true∨d4 s→1≤a)∧(t.D.PC≠1→d4 s→1≤b)∧t.Restarts+a+b+2*Ur p 1 s.Ms≤2*wrP p)∧((t.D.PC≤2∧t.Epoch=t.Restarts)∨(3≤t.D.PC∧t.Epoch=t.Restarts+1))∧0≤t.Restarts):=fun c hD e=>by
  have h1:=h1 (by omega) hD
  have w:wc (s.Restarts+1)=s.Restarts+1:=xf (by omega) (by omega)
  subst e
  dsimp only
  rw [w]
  exact ⟨⟨a-1,b,by omega,hb,fun c=>by omega,fun _ h=>h2 (by omega) h,by omega⟩,.inl ⟨by omega,by omega⟩,by omega⟩
 by_cases c0:s.D.PC=0
 ·have e:t={s with Flag:=false,D:={s.D with PC:=1}}:=by rw [←et];unfold zD;rw [if_neg (by rw [hd];decide),if_pos c0]
  subst e
  refine ⟨⟨a+b,0,by omega,by omega,fun _ h=> ?_,fun h=>absurd rfl h,by dsimp only;omega⟩,.inl ⟨by dsimp only;omega,by dsimp only;omega⟩,hrs⟩
  rcases h with h | h
  ·cases h
  ·have:=h2 (by omega) h;omega
 by_cases c1:s.D.PC=1
 ·by_cases hw:s.Work=0
  ·have e:t={s with D:={s.D with PC:=2}}:=by rw [←et];unfold zD;rw [if_neg (by rw [hd];decide),if_neg c0,if_pos c1,if_pos hw]
   subst e
   have no4: ¬d4 s:=fun ⟨i,x,hx,c,g4,g0⟩=>by
    obtain ⟨C,_⟩:=uF.of Q.I hw
    have hm:x.G.Obj∈uB p s gh:=zdk hx (by
     unfold zZ
     rw [zi5 c,wY g0 (by omega) (by omega)];simp)
    rw [C.bag] at hm;cases hm
   exact ⟨⟨a,b,ha,hb,fun _ h=>h1 (by omega) h,fun _ h=>absurd h no4,h3⟩,.inl ⟨by dsimp only;omega,by dsimp only;omega⟩,hrs⟩
  ·have e:t=s:=by rw [←et];unfold zD;rw [if_neg (by rw [hd];decide),if_neg c0,if_pos c1,if_neg hw]
   subst e
   exact ⟨⟨a,b,ha,hb,h1,h2,h3⟩,hep,hrs⟩
 by_cases c2:s.D.PC=2
 ·have e:t={s with Epoch:=wc (s.Epoch+1),D:=⟨if s.Ms.length=0 then 4 else 3,0⟩}:=by rw [←et];unfold zD;rw [if_neg (by rw [hd];decide),if_neg c0,if_neg c1,if_pos c2]
  have w:wc (s.Epoch+1)=s.Epoch+1:=xf (by omega) (by omega)
  subst e
  have hq:3≤(if s.Ms.length=0 then (4:Int) else 3):=by split<;>omega
  refine ⟨same rfl rfl ⟨by omega,by dsimp only;omega⟩,.inr ⟨hq,?_⟩,hrs⟩
  dsimp only
  rw [w];omega
 by_cases c3:s.D.PC=3
 ·by_cases hw:s.Acks.getD s.D.I.toNat 0<s.Epoch
  ·have e:t=s:=by rw [←et];unfold zD;rw [if_neg (by rw [hd];decide),if_neg c0,if_neg c1,if_neg c2,if_pos c3,if_pos hw]
   subst e
   exact ⟨⟨a,b,ha,hb,h1,h2,h3⟩,hep,hrs⟩
  ·have e:t={s with D:=⟨if wc (s.D.I+1)=(s.Ms.length:Int) then 4 else 3,wc (s.D.I+1)⟩}:=by rw [←et];unfold zD;rw [if_neg (by rw [hd];decide),if_neg c0,if_neg c1,if_neg c2,if_pos c3,if_neg hw]
   subst e
   have hq:3≤(if wc (s.D.I+1)=(s.Ms.length:Int) then (4:Int) else 3):=by split<;>omega
   exact ⟨same rfl rfl ⟨by omega,by dsimp only;omega⟩,.inr ⟨hq,by dsimp only;omega⟩,hrs⟩
 by_cases c4:s.D.PC=4
 ·by_cases hw:s.Work=0
  ·have e:t={s with D:={s.D with PC:=5}}:=by rw [←et];unfold zD;rw [if_neg (by rw [hd];decide),if_neg c0,if_neg c1,if_neg c2,if_neg c3,if_pos c4,if_pos hw]
   subst e
   exact ⟨same rfl rfl ⟨by omega,by dsimp only;omega⟩,.inr ⟨by dsimp only;omega,by dsimp only;omega⟩,hrs⟩
  ·refine again (.inl c4) ?_ (by rw [←et];unfold zD;rw [if_neg (by rw [hd];decide),if_neg c0,if_neg c1,if_neg c2,if_neg c3,if_pos c4,if_neg hw])
   rcases Q.P.ph ⟨by omega,by omega⟩ with D | ⟨C,K⟩
   ·exact D
   ·exact absurd (zte Q.I C (K.resolve_left (K1.no c2 (Q.P.a4 (by omega)))) c2 (Q.P.a4 (by omega))) hw
 by_cases c5:s.D.PC=5
 ·by_cases hw:s.Flag=true
  ·exact again (.inr c5) (.inl hw) (by rw [←et];unfold zD;rw [if_neg (by rw [hd];decide),if_neg c0,if_neg c1,if_neg c2,if_neg c3,if_neg c4,if_pos c5,if_pos hw])
  ·have e:t={s with D:={s.D with PC:=6}}:=by rw [←et];unfold zD;rw [if_neg (by rw [hd];decide),if_neg c0,if_neg c1,if_neg c2,if_neg c3,if_neg c4,if_pos c5,if_neg hw]
   subst e
   exact ⟨same rfl rfl ⟨by omega,by dsimp only;omega⟩,.inr ⟨by dsimp only;omega,by dsimp only;omega⟩,hrs⟩
 ·have c6:s.D.PC=6:=by omega
  have e:t={s with Done:=true}:=by rw [←et];unfold zD;rw [if_neg (by rw [hd];decide),if_neg c0,if_neg c1,if_neg c2,if_neg c3,if_neg c4,if_neg c5,if_pos c6]
  subst e
  exact ⟨same rfl rfl ⟨by omega,by dsimp only;omega⟩,hep,hrs⟩
theorem TI.worker {p:zb} {nb k:Nat} {s:za} {gh:Gh} (I:EG p nb k s gh) (T:TI p s) {w:Int}:TI p (zE s w):=by
 have hf:=Wc I.G.E w
 have eX:(zE s w).Ms=s.Ms:=by rw [hf]
 have eD:(zE s w).D=s.D:=by rw [hf]
 have eF:(zE s w).Flag=s.Flag:=by rw [hf]
 have eR:(zE s w).Restarts=s.Restarts:=by rw [hf]
 have eE:(zE s w).Epoch=s.Epoch:=by rw [hf]
 have d4e:d4 (zE s w)↔d4 s:=by unfold d4;rw [eX]
 refine ⟨by rw [eX];exact T.ok,?_,by rw [eX];exact T.kd,?_,by rw [eD,eE,eR];exact T.ep,by rw [eR];exact T.rs⟩
 ·unfold zE
  split
  ·exact T.wk
  split
  ·rename_i x hx
   intro y hy
   rcases List.mem_or_eq_of_mem_set hy with hy | rfl
   ·exact T.wk y hy
   ·exact zAy (T.wk x (List.mem_of_getElem? hx))
  ·exact T.wk
 ·rw [eX,eD,eF,eR,d4e];exact T.pot
theorem TI.mutator {p:zb} (hp:zA p) {nb k:Nat} {s:za} {gh:Gh} (I:EG p nb k s gh) (T:TI p s) (hd:s.Done=false) {m:Int} (hm:1≤m∧m≤(s.Ms.length:Int)):TI p (zp s m):=by
 have hi:(m-1).toNat<s.Ms.length:=by omega
 have ei:(((m-1).toNat:Nat):Int)+1=m:=by omega
 have hx:=List.getElem?_eq_getElem hi
 generalize s.Ms[(m-1).toNat]=x at hx
 have hmem:=List.mem_of_getElem? hx
 have eS:zp s m={(zg s m x).1 with Ms:=s.Ms.set (m-1).toNat (zg s m x).2}:=by
  unfold zp
  rw [if_neg (by rw [hd];rintro (e | e | e)<;>first | cases e | omega),hx]
 have hf:=zha s m
 have eD:(zp s m).D=s.D:=by rw [hf]
 have eW:(zp s m).Ws=s.Ws:=by rw [hf]
 have eE:(zp s m).Epoch=s.Epoch:=by rw [hf]
 have eR:(zp s m).Restarts=s.Restarts:=by rw [hf]
 have eX:(zp s m).Ms=s.Ms.set (m-1).toNat (zg s m x).2:=by rw [eS]
 have eF:(zp s m).Flag=(zg s m x).1.Flag:=by rw [eS]
 have hXO:=I.G.E.X _ x hx
 have hK:=T.kd _ x hx
 rw [ei] at hXO hK
 have hMX:=I.G.M _ x hx
 obtain ⟨k1,k2⟩:=zyf I.G.E.S.P (zee hp m) hXO hK (T.ok x hmem) (fun c=>⟨(hMX.p3 c).2.1,(hMX.p3 c).2.2,(hMX.p3 c).1.pc⟩) (fun c=>(hMX.p37 c).2.1)
 have htok:Ur p 1 (zp s m).Ms=Ur p 1 s.Ms-wi p m x+wi p m (zg s m x).2:=by
  rw [eX,zvS _ _ _ hx,show 1+(((m-1).toNat:Nat):Int)=m by omega]
 have d4t:d4 (zp s m)→d4 s∨at4 (zg s m x).2:=by
  rintro ⟨i,y,hy,h⟩
  rw [eX] at hy
  by_cases e:i=(m-1).toNat
  ·subst e
   rw [List.getElem?_set_self hi] at hy
   injection hy with hy;subst hy
   exact .inr h
  ·rw [List.getElem?_set_ne (fun h=>e h.symm)] at hy
   exact .inl ⟨i,y,hy,h⟩
 refine ⟨?_,by rw [eW];exact T.wk,fun i y hy=> ?_,?_,by rw [eD,eE,eR];exact T.ep,by rw [eR];exact T.rs⟩
 ·rw [eX]
  intro y hy
  rcases List.mem_or_eq_of_mem_set hy with hy | rfl
  ·exact T.ok y hy
  ·exact zAT (T.ok x hmem)
 ·rw [eX] at hy
  by_cases e:i=(m-1).toNat
  ·subst e
   rw [List.getElem?_set_self hi] at hy
   injection hy with hy;subst hy
   rw [ei];exact k1
  ·rw [List.getElem?_set_ne (fun h=>e h.symm)] at hy
   exact T.kd i y hy
 ·obtain ⟨a,b,ha,hb,h1,h2,h3⟩:=T.pot
  rw [eD,eR,htok]
  rcases k2 with ⟨c,ht⟩ | ⟨ht,hF,h4⟩
  ·exact ⟨a+1,b+1,by omega,by omega,fun _ _=>by omega,fun _ _=>by omega,by omega⟩
  ·have d4d:d4 (zp s m)→d4 s:=fun h=>(d4t h).elim id (fun h=>⟨_,x,hx,h4 h⟩)
   refine ⟨a,b,ha,hb,fun c h=>h1 c ?_,fun c h=>h2 c (d4d h),by omega⟩
   rcases h with h | h
   ·rcases hF with hF | hF
    ·left;rw [eF,hF] at h;exact h
    ·exact .inr ⟨_,x,hx,hF⟩
   ·exact .inr (d4d h)
theorem TI.next {p:zb} (hp:zA p) {nb k:Nat} {s:za} {gh:Gh} {W:Int→Int→Prop} (hk:k<1000000) (Q:DI p nb k s gh W) (T:TI p s) (j:Int):TI p (uh s j):=by
 cases hd:s.Done with
 | true=>rw [zkt hd];exact T
 | false =>
  unfold uh
  split
  ·exact T.det hp hk Q hd
  split
  ·exact T.worker Q.I
  ·by_cases h1:1≤j-(s.Ws.length:Int)∧j-(s.Ws.length:Int)≤(s.Ms.length:Int)
   ·exact T.mutator hp Q.I hd h1
   ·have:zp s (j-(s.Ws.length:Int))=s:=by unfold zp;rw [if_pos (by omega)]
    rw [this];exact T
theorem zBI {p:zb} (hp:zA p):TI p (yz p):=by
 have hr:=hp.regs
 have hg:=hp.progs
 have hms: ∀x∈(yz p).Ms,x.PC=0∧x.G.PC=0:=fun x hx=>by
  obtain ⟨r,_,e⟩:=List.mem_map.1 (show x∈p.Regs.map xh from hx)
  rw [←e];exact ⟨rfl,rfl⟩
 have hws: ∀x∈(yz p).Ws,x.G.PC=0:=fun x hx=>by
  obtain ⟨j,_,e⟩:=List.mem_map.1 (show x∈(List.range p.Workers.toNat).map (vT p) from hx)
  rw [←e];rfl
 have n4: ¬d4 (yz p):=fun ⟨i,x,hx,c,_⟩=>by have:=(hms x (List.mem_of_getElem? hx)).1;omega
 have e0:(yz p).D.PC=0:=rfl
 refine ⟨fun x hx c=>by have:=(hms x hx).2;omega,fun x hx c=>by have:=hws x hx;omega,fun i x hx c=>by have:=(hms x (List.mem_of_getElem? hx)).1;omega,⟨0,0,by decide,by decide,fun c=>by omega,fun _ h=>absurd h n4,?_⟩,.inl ⟨by omega,rfl⟩,Int.le_refl _⟩
 have e1:Ur p 1 (yz p).Ms=wrP p:=by
  have:=zuV (p:=p) p.Regs 0 (by omega)
  rw [List.drop_zero,List.take_of_length_le (by omega)] at this
  exact this
 rw [e1]
 show 0+0+0+2*wrP p≤2*wrP p
 omega
end
end Go.Pe.G
namespace Go.Pe.G
open Go.Pe
noncomputable section
namespace B17
def zbG (n:Nat) (s:za):za:=goF (fun _ s=>zD s) 0 n s
theorem zcJ {p:zb} {nb:Nat} (h:zA p) {s:za} (E:EOk p nb s) {n:Nat} (hn:n<1000000):yG s (n:Int)=some (zbG n s,()):=by
 have e:=zsh (f:=Zf) (fun i s=>((n:Int),i,s,0,0,0,0,0,0,0,0,0,0#64,0,zt.mk 0#64 0#64,0,0,false,false,0,0,0,0,zB.mk 0 0,([]:List (List Int)),([]:List (List Int)),([]:List (List zk)),([]:List zq),([]:List (List Int)),([]:List (BitVec 64)),([]:List (List Int)),([]:List Int),([]:List Int),([]:List ze),([]:List zc),())) (fun s=>(s,0,0,0,0,0,0,0,0,0,0#64,0,zt.mk 0#64 0#64,0,0,false,false,0,0,0,0,zB.mk 0 0,([]:List (List Int)),([]:List (List Int)),([]:List (List zk)),([]:List zq),([]:List (List Int)),([]:List (BitVec 64)),([]:List (List Int)),([]:List Int),([]:List Int),([]:List ze),([]:List zc),())) n hn (fun _ s=>zD s) (EOk p nb) (fun _ s E=>zxj h E)
  (fun i s hi E=>by
   show Zf ((n:Int),(i:Int),s,0,0,0,0,0,0,0,0,0,0#64,0,zt.mk 0#64 0#64,0,0,false,false,0,0,0,0,zB.mk 0 0,([]:List (List Int)),([]:List (List Int)),([]:List (List zk)),([]:List zq),([]:List (List Int)),([]:List (BitVec 64)),([]:List (List Int)),([]:List Int),([]:List Int),([]:List ze),([]:List zc),())=_
   rw [zaP,zw,if_pos (by omega),zpv h E,Option.bind_some,xC (by omega)])
  (fun s E=>by
   show Zf ((n:Int),(n:Int),s,0,0,0,0,0,0,0,0,0,0#64,0,zt.mk 0#64 0#64,0,0,false,false,0,0,0,0,zB.mk 0 0,([]:List (List Int)),([]:List (List Int)),([]:List (List zk)),([]:List zq),([]:List (List Int)),([]:List (BitVec 64)),([]:List (List Int)),([]:List Int),([]:List Int),([]:List ze),([]:List zc),())=_
   rw [zaP,zw,if_neg (by omega)]) E
 rw [zlr]
 exact congrArg (fun o=>Option.bind o _) e
theorem zy0 {p:zb} {nb:Nat} (h:zA p) {s:za} (E:EOk p nb s) (n:Nat):EOk p nb (zbG n s):=zto (Inv:=EOk p nb) (g:=fun _ s=>zD s) (fun _ s E=>zxj h E) n 0 s E
theorem zn7 {s:za} (h:s.Done=true) (n:Nat):zbG n s=s:=by
 have: ∀(n i:Nat),goF (fun _ s=>zD s) i n s=s:=by
  intro n
  induction n with
  | zero=>intro i;rfl
  | succ n ih =>
   intro i
   show goF _ (i+1) n (zD s)=s
   have e:zD s=s:=by unfold zD;rw [if_pos h]
   rw [e];exact ih (i+1)
 exact this n 0
theorem zzU {A B D:Type} {f:A→Option (xH A B D)} {x:A} {b:B} (h:f x=some (.brk b)):yU f x=some (.brk b):=by
 rw [zaV]
 show ZJ f (18446744073709551615+1) x=_
 rw [ZJ,h];rfl
theorem zyQ {A B D:Type} {f:A→Option (xH A B D)} {x y:A} {b:B} (h1:f x=some (.again y)) (h:f y=some (.brk b)):yU f x=some (.brk b):=by
 rw [zaV]
 show ZJ f (18446744073709551614+1+1) x=_
 rw [ZJ,h1,Option.bind_some]
 dsimp only
 rw [ZJ,h];rfl
def zlT:zb:=⟨1,0,2,1,1,4,2,2,⟨1,[[2],[0],[0]]⟩,1#64,[],[],[]⟩
def zfJ:zb:=⟨1,0,2,1,1,4,2,2,⟨1,[[2],[0],[0]]⟩,0#64,[],[],[]⟩
def zBN:zb:=⟨1,1,2,1,1,4,2,2,⟨1,[[2],[0],[0]]⟩,1#64,[[1,0]],[[]],[]⟩
def zfN:zb:=⟨1,1,2,1,1,4,2,2,⟨1,[[2],[0],[0]]⟩,0#64,[[0]],[[]],[]⟩
theorem zzW:YC []=some (zlT,()):=by
 rw [zcZ,zzU (by rw [XT];rfl)];rfl
theorem zyV:YC [[]]=some (zBN,()):=by
 rw [zcZ,zyQ (by rw [XT,zw,if_pos (by decide),vd (by decide),Option.bind_some,vK (by decide)];simp only [Int.toNat_zero,List.getElem?_cons_zero,Option.bind_some];rw [vd (by decide),Option.bind_some,yr (by decide) (by decide)]) (by rw [XT,zw,if_neg (by decide)])];rfl
theorem zmS:zA zlT:=by
 constructor
 case objs=>intro o ho;simp [zlT] at ho ⊢;rcases ho with rfl | rfl | rfl<;>simp
 case roots=>exact ⟨1,by decide,by decide,by decide⟩
 case reg=>intro r hr;cases hr
 case prog=>intro k r ops hr;cases hr
 all_goals first | decide | rfl
theorem zcV:zA zfJ:=by
 constructor
 case objs=>intro o ho;simp [zfJ] at ho ⊢;rcases ho with rfl | rfl | rfl<;>simp
 case roots=>exact ⟨0,by decide,by decide,by decide⟩
 case reg=>intro r hr;cases hr
 case prog=>intro k r ops hr;cases hr
 all_goals first | decide | rfl
theorem ZW:zA zfN:=by
 constructor
 case objs=>intro o ho;simp [zfN] at ho ⊢;rcases ho with rfl | rfl | rfl<;>simp
 case roots=>exact ⟨0,by decide,by decide,by decide⟩
 case reg=>intro r hr;simp [zfN] at hr ⊢;subst hr;simp
 case prog =>
  intro k r ops hr ho
  have:ops=[]:=by
   cases k with
   | zero=>injection ho with ho;exact ho.symm
   | succ k=>cases ho
  subst this
  exact ⟨by decide,fun o h=>by cases h⟩
 all_goals first | decide | rfl
theorem ztO:VS=some (true,()):=by
 have E0:=zra zmS
 have E1:=zra zcV
 have E2:=zra ZW
 have a9:yG (yz zlT) 9=some (zbG 9 (yz zlT),()):=zcJ zmS E0 (n:=9) (by decide)
 have b5:yG (yz zfJ) 5=some (zbG 5 (yz zfJ),()):=zcJ zcV E1 (n:=5) (by decide)
 have b6:yG (yz zfJ) 6=some (zbG 6 (yz zfJ),()):=zcJ zcV E1 (n:=6) (by decide)
 have d6:(zbG 6 (yz zfJ)).Done=true:=by decide +kernel
 have F1:=zy0 zcV E1 6
 have b9:yG (zbG 6 (yz zfJ)) 3=some (zbG 6 (yz zfJ),()):=by rw [←zn7 d6 3];rw [zn7 d6 3];exact (zcJ zcV F1 (n:=3) (by decide)).trans (by rw [zn7 d6])
 have c9:yG (yz zfN) 9=some (zbG 9 (yz zfN),()):=zcJ ZW E2 (n:=9) (by decide)
 have G0:=zy0 ZW E2 9
 have m1:=zd2 ZW G0 1
 have G1:=zkk ZW G0 1
 have m2:=zd2 ZW G1 1
 have G2:=zkk ZW G1 1
 have m3:=zd2 ZW G2 1
 have G3:=zkk ZW G2 1
 have v4:yG (zp (zp (zp (zbG 9 (yz zfN)) 1) 1) 1) 4=some (zbG 4 (zp (zp (zp (zbG 9 (yz zfN)) 1) 1) 1),()):=zcJ ZW G3 (n:=4) (by decide)
 have u4:yG (zbG 9 (yz zfN)) 4=some (zbG 4 (zbG 9 (yz zfN)),()):=zcJ ZW G0 (n:=4) (by decide)
 have n1:XD {zlT with Roots:=0#64}=some (yz zfJ,()):=zkl zcV
 have n2:XD {zBN with Roots:=0#64,Regs:=[[0]]}=some (yz zfN,()):=zkl ZW
 rw [zir,zzW]
 simp only [Option.bind_some,zyV,zkl zmS,n1,n2,a9,b5,b6,b9,c9,m1,m2,m3,v4,u4,zxJ F1.small]
 decide +kernel
def zvO (s:za) (b:BitVec 8):Int:=(b.toNat:Int).tmod (1+(s.Ws.length:Int)+(s.Ms.length:Int))
theorem zBa {p:zb} {nb:Nat} (h:zA p) {s:za} (E:EOk p nb s) (b:BitVec 8):zbD s b=some (uh s (zvO s b),()):=by
 have hw:=h.wk
 have hm:=h.mt
 have hwl:=E.wl
 have hml:=E.ml
 have e1:w64 (w64 (1+(s.Ws.length:Int))+(s.Ms.length:Int))=1+(s.Ws.length:Int)+(s.Ms.length:Int):=by rw [yr (a:=1+(s.Ws.length:Int)) (by omega) (by omega),yr (by omega) (by omega)]
 have ht:=vR (show (0:Int)≤(b.toNat:Int) by omega) (show (0:Int)<1+(s.Ws.length:Int)+(s.Ms.length:Int) by omega)
 rw [zmD,e1,zw,if_neg (by omega)]
 simp only [zw]
 unfold uh zvO
 generalize (b.toNat:Int).tmod (1+(s.Ws.length:Int)+(s.Ms.length:Int))=k at ht
 by_cases c0:k=0
 ·rw [if_pos c0,if_pos c0,zpv h E];rfl
 rw [if_neg c0,if_neg c0]
 by_cases c1:k≤(s.Ws.length:Int)
 ·rw [if_pos c1,if_pos c1,zwd h E];rfl
 ·rw [if_neg c1,if_neg c1,yr (by omega) (by omega),zd2 h E];rfl
def zrC (ord:List (BitVec 8)) (i:Nat):BitVec 8:=ord.getD (i%ord.length) 0#8+BitVec.ofInt 8 ((i/ord.length:Nat):Int)
theorem zA6 {ord:List (BitVec 8)} (hl:ord.length≠0) {i:Nat} (hi:i<1000000):idx ord ((i:Int).tmod (ord.length:Int))=some (ord.getD (i%ord.length) 0#8)∧ord.getD (i%ord.length) 0#8+BitVec.ofInt 8 (w64 ((i:Int).tdiv (ord.length:Int)))=zrC ord i:=by
 have e1:(i:Int).tmod (ord.length:Int)=((i%ord.length:Nat):Int):=by rw [Int.tmod_eq_emod_of_nonneg (by omega)];exact (Int.natCast_emod i ord.length).symm
 have e2:(i:Int).tdiv (ord.length:Int)=((i/ord.length:Nat):Int):=by rw [Int.tdiv_eq_ediv_of_nonneg (by omega)];exact (Int.natCast_ediv i ord.length).symm
 have hm:=Nat.mod_lt i (show 0<ord.length by omega)
 have hd:=Nat.div_le_self i ord.length
 refine ⟨?_,?_⟩
 ·rw [e1,vK (by omega),Int.toNat_natCast,List.getD_eq_getElem?_getD,List.getElem?_eq_getElem hm];rfl
 ·have hdi:((i/ord.length:Nat):Int)≤(i:Int):=Int.ofNat_le.2 hd
  have hdn:(0:Int)≤((i/ord.length:Nat):Int):=Int.natCast_nonneg _
  generalize hq:((i/ord.length:Nat):Int)=q at hdi hdn e2 ⊢
  rw [e2,yr (by omega) (by omega)];unfold zrC;rw [hq]
theorem zwE {l:List zk} (hl:l.length<1000000):zg6 l=some (XQ l,()):=by
 have key: ∀(n i:Nat) (r:Int),i+n=l.length→0≤r∧r≤(i:Int)→goF (fun j r=>match l[j]? with | some o=>if o.Kind=2 then w64 (r+1) else r | none=>r) i n r=r+XQ (l.drop i):=by
  intro n
  induction n with
  | zero=>intro i r hi hr;rw [List.drop_of_length_le (by omega)];show r=r+0;omega
  | succ n ih =>
   intro i r hi hr
   have hx:=List.getElem?_eq_getElem (show i<l.length by omega)
   rw [List.drop_eq_getElem_cons (show i<l.length by omega)]
   show goF _ (i+1) n (match l[i]? with | some o=>if o.Kind=2 then w64 (r+1) else r | none=>r)=r+((if l[i].Kind=2 then 1 else 0)+XQ (l.drop (i+1)))
   rw [hx]
   dsimp only
   split
   ·rw [yr (a:=r+1) (by omega) (by omega),ih (i+1) _ (by omega) (by omega)];omega
   ·rw [ih (i+1) _ (by omega) (by omega)];omega
 have:=zsh (f:=Wi) (fun (j:Int) (r:Int)=>(r,l,(l.length:Int),j,())) (fun r=>(r,())) l.length hl (fun j r=>match l[j]? with | some o=>if o.Kind=2 then w64 (r+1) else r | none=>r) (fun _=>True) (fun _ _ _=>trivial)
  (fun j r hj _=>by
   have x1:=List.getElem?_eq_getElem hj
   show Wi (r,l,(l.length:Int),(j:Int),())=_
   rw [zex,zw,if_pos (by omega),wZ x1,Option.bind_some,zw,xC (by omega),x1]
   dsimp only
   split<;>rfl)
  (fun r _=>by
   show Wi (r,l,(l.length:Int),((l.length:Nat):Int),())=_
   rw [zex,zw,if_neg (by omega)]) (s:=0) trivial
 rw [zqg]
 refine (congrArg (fun o=>Option.bind o _) this).trans ?_
 rw [key _ 0 0 (by omega) (by omega),List.drop_zero,Int.zero_add];rfl
theorem zwp {p:zb} (hp:zA p):zgA p=some (wrP p,()):=by
 have hwr:=zvg hp
 have hm:=hp.mt
 have hg:=hp.progs
 have hr:=hp.regs
 have hl: ∀q∈p.Progs,(q.length:Int)≤64:=fun q hq=>by
  obtain ⟨i,hi⟩:=List.mem_iff_getElem?.1 hq
  have:=zee hp ((i:Int)+1)
  unfold xk at this
  rw [show ((i:Int)+1-1).toNat=i by omega,List.getD_eq_getElem?_getD,hi] at this
  exact this
 have key: ∀(n i:Nat) (r:Int),i+n=p.Progs.length→0≤r∧r≤64*(i:Int)→goF (fun j r=>match p.Progs[j]? with | some q=>w64 (r+XQ q) | none=>r) i n r=r+((p.Progs.drop i).map XQ).sum:=by
  intro n
  induction n with
  | zero=>intro i r hi hr;rw [List.drop_of_length_le (by omega)];show r=r+0;omega
  | succ n ih =>
   intro i r hi hr
   have hx:=List.getElem?_eq_getElem (show i<p.Progs.length by omega)
   have h1:=hl _ (List.getElem_mem (show i<p.Progs.length by omega))
   have h2:=zsp p.Progs[i]
   have h3:=zoJ p.Progs[i]
   rw [List.drop_eq_getElem_cons (show i<p.Progs.length by omega),List.map_cons,List.sum_cons]
   show goF _ (i+1) n (match p.Progs[i]? with | some q=>w64 (r+XQ q) | none=>r)=_
   rw [hx]
   dsimp only
   rw [yr (a:=r+XQ p.Progs[i]) (by omega) (by omega),ih (i+1) _ (by omega) (by omega)];omega
 have:=zsh (f:=XR) (fun (j:Int) (r:Int)=>(r,p.Progs,(p.Progs.length:Int),j,())) (fun r=>(r,())) p.Progs.length (by omega) (fun j r=>match p.Progs[j]? with | some q=>w64 (r+XQ q) | none=>r) (fun _=>True) (fun _ _ _=>trivial)
  (fun j r hj _=>by
   have x1:=List.getElem?_eq_getElem hj
   have h1:=hl _ (List.getElem_mem hj)
   show XR (r,p.Progs,(p.Progs.length:Int),(j:Int),())=_
   rw [zev,zw,if_pos (by omega),wZ x1,Option.bind_some,zwE (by omega),Option.bind_some,xC (by omega),x1])
  (fun r _=>by
   show XR (r,p.Progs,(p.Progs.length:Int),((p.Progs.length:Nat):Int),())=_
   rw [zev,zw,if_neg (by omega)]) (s:=0) trivial
 rw [zqx]
 refine (congrArg (fun o=>Option.bind o _) this).trans ?_
 rw [key _ 0 0 (by omega) (by omega),List.drop_zero,Int.zero_add];rfl
theorem detectAgain_plain (l ord:List (BitVec 8)):uq l ord=some (true,()):=by
 obtain ⟨p,ep,h⟩:=zAV l
 have hwr:=zvg h
 rw [zfO,ztO]
 simp only [Option.bind_some,Bool.not_true,cond_false,ep,zkl h]
 obtain ⟨o,e,rfl⟩:=ZO (f:=Yu) (fun a=>∃(i:Nat) (s:za) (gh:Gh) (W:Int→Int→Prop),i≤1200∧a=(ord,true,(i:Int),p,s,())∧DI p (zX p+1) i s gh W∧TI p s) (fun a=>1200-a.2.2.1.toNat)
  (fun o=>o= .brk (true,())) (by
  rintro _ ⟨i,s,gh,W,hi,rfl,Q,T⟩
  have E:=Q.I.G.E
  rw [zdG,zw]
  by_cases c1:(i:Int)<1200
  rotate_left
  ·rw [if_neg c1];exact ⟨_,rfl,rfl⟩
  rw [if_pos c1]
  cases hd:s.Done with
  | true=>exact ⟨_,rfl,rfl⟩
  | false =>
   rw [Bool.not_false,cond_true,zw]
   by_cases c2:0<(ord.length:Int)
   rotate_left
   ·rw [if_neg c2];exact ⟨_,rfl,rfl⟩
   obtain ⟨b1,b2⟩:=zA6 (ord:=ord) (by omega) (i:=i) (by omega)
   obtain ⟨gh',W',Q'⟩:=Q.next h (by omega) (zvO s (zrC ord i))
   have T':=T.next h (by omega) Q (zvO s (zrC ord i))
   rw [if_pos c2,zw,if_neg (by omega),b1,Option.bind_some,zw,if_neg (by omega),b2,zBa h E,Option.bind_some,zwp h,Option.bind_some]
   generalize uh s (zvO s (zrC ord i))=t at Q' T'
   obtain ⟨a,b,t1,t2,_,_,t3⟩:=T'.pot
   have t4:=zsx p t.Ms 1
   have t5:=T'.ep
   have t6:=T'.rs
   dsimp only
   rw [yr (a:=2*wrP p) (by omega) (by omega),yr (a:=t.Restarts+1) (by omega) (by omega),zw,if_neg (by omega),zw,if_neg (by omega),zw,if_neg (by omega)]
   refine ⟨.again (ord,true,((i+1:Nat):Int),p,t,()),?_,⟨i+1,_,gh',W',by omega,rfl,Q',T'⟩,?_⟩
   ·rw [xC (by omega)]
   ·show 1200-((i+1:Nat):Int).toNat<1200-(i:Int).toNat
    omega) (ord,true,0,p,yz p,()) ⟨0,yz p,gh0 p,_,by omega,rfl,zBu h,zBI h⟩ (by show 1200-0<18446744073709551616;decide)
 exact congrArg (fun o=>Option.bind o _) e
end B17
end
end Go.Pe.G
