/- Own work of this seat: PWAll, PLists, PWNew, PHeld, PCnt, PWOnce, PItems, PMstep, PHp, PFirst, PNewI, PFull, PHold, PFWork, PEngI, PRem, PHeldAll, PHOwed, PReach, PHTold, PBetween, PRegs, PBound, PLiveP, PProt, PMProt, PMSnap, PWSnap, PEngP, PTri, PPaid, PUnder, PNewPi, PHPend, PTriK, PEngN. -/
import Derived.Test.YtohmajcohogajaaGreatDoorTFPa
set_option linter.unusedVariables false
set_option linter.unusedSimpArgs false
set_option linter.unnecessarySimpa false
set_option linter.unusedSectionVars false
set_option linter.deprecated false
set_option maxRecDepth 20000
open BitVec renaming toNat_and → zKF, getLsbD_and → zKO, eq_of_getLsbD_eq → zK5, getLsbD_zero → zK6, toInt_eq_toNat_cond → zLb, getLsbD_not → zLg
open Bool renaming and_eq_true → zJB, not_true → zJQ, not_eq_true' → zJU, false_eq_true → zKb, true_and → zKz, or_eq_true → zKI
open Int renaming toNat_natCast → zKi, le_refl → zKl
open List renaming getElem?_eq_getElem → zJC, getD_eq_getElem?_getD → zJD, append_nil → zJE, mem_of_getElem? → zJG, mem_cons_of_mem → zJI, append_assoc → zJJ, getElem?_eq_some_iff → zJK, nil_append → zJM, length_append → zJN, mem_map → zJO, length_cons → zJS, mem_cons → zJT, mem_append_left → zJV, mem_cons_self → zJW, getElem_mem → zJY, mem_append → zJZ, mem_range → zJ1, getElem?_append_left → zJ4, length_set → zJ6, mem_append_right → zJ7, getElem?_map → zJ8, getElem?_append_right → zJ9, getElem?_set_ne → zKc, length_replicate → zKf, drop_eq_getElem_cons → zKg, perm_append_comm_assoc → zKh, mem_singleton → zKm, mem_or_eq_of_mem_set → zKn, getElem?_set → zKo, eq_nil_of_length_eq_zero → zKp, foldl_cons → zKq, flatMap_cons → zKr, perm_append_comm → zKs, length_nil → zKt, length_map → zKv, map_cons → zKw, sum_cons → zKA, getElem?_cons_zero → zKE, getElem?_eq_none → zKH, length_take → zKK, length_filter_le → zKN, nodup_append → zKP, length_drop → zKR, take_add_one → zKU, getElem?_set_self → zKV, mem_filter → zKW, range_succ → zKY, flatMap_append → zKZ, range_eq_range' → zK1, cons_append → zK3, getElem?_replicate → zK4, mem_of_mem_take → zK8, range'_succ → zLc, map_congr_left → zLd, take_append_drop → zLe, take_length → zLf, mem_iff_getElem? → zLi, mem_flatMap → zLj, drop_of_length_le → zLk, getElem?_cons_succ → zLo, eq_of_mem_replicate → zLp, length_singleton → zLr
open List.Perm renaming append_left → zJP, refl → zJ2, append_right → zK7
open Nat renaming le_refl → zJF, lt_or_ge → zKa, mul_le_mul_right → zKC, le_trans → zKG, zero_le → zKM, lt_of_le_of_lt → zLh
open Option renaming bind_some → zJA, bind_eq_some_iff → zJL
namespace Go.Pe.G
open Go.Pe
noncomputable section
theorem zAo {α:Type}{l:List α}{i:Nat}{x:α}(h:l[i]? =some x):∃a b,l=a++x::b/\(∀y,l.set i y=a++y::b)/\(∀z∈a++b,∃j,j≠i/\l[j]? =some z) /\
  (∀j z,j≠i->l[j]? =some z->z∈a++b):=by
 obtain ⟨hi,e⟩:=zJK.1 h;have hl:(l.take i).length=i:=by rw [zKK];omega
 have el:l=l.take i++x::l.drop (i+1):=by
  conv=>lhs;rw [<-zLe i l,zKg hi,e]
 refine ⟨l.take i,l.drop (i+1),el,fun y=>?_,fun z hz=>?_,fun j z hj hz=>?_⟩
 .rw [List.set_eq_take_append_cons_drop,zb hi]
 .rcases zJZ.1 hz with hz | hz
  .obtain ⟨j,hj⟩:=zLi.1 hz;obtain ⟨hj1,hj2⟩:=zJK.1 hj;have hj3:j<i:=by omega
   exact ⟨j,by omega,by rw [List.getElem?_take_of_lt hj3] at hj;exact hj⟩
  .obtain ⟨j,hj⟩:=zLi.1 hz;exact ⟨i+1+j,by omega,by rw [List.getElem?_drop] at hj;exact hj⟩
 .rw [el] at hz;rcases zKa j i with h1 | h1
  .rw [zJ4 (by omega)] at hz;exact zJV _ (zJG hz)
  .rw [zJ9 (by omega),hl] at hz;rw [show j-i=(j-i-1)+1 by omega,zLo] at hz;exact zJ7 _ (zJG hz)
theorem VK {α β:Type}{f:α->List β}{a b:List α}{x:α}:List.Perm ((a++x::b).flatMap f) (f x++(a++b).flatMap f):=by
 rw [zKZ,zKr,zKZ];exact zKh _ _ _
theorem SX.perm {p:zd}{nb k:Nat}{s:za}{g:Gh}{o o':List Int}(X:SX p nb s g o k) (h:List.Perm o' o):SX p nb s g o' k :=
 ⟨X.S,⟨X.L.hs,X.L.cF,X.L.cE,(zJP _ h).trans X.L.all,X.L.len⟩,X.D,X.v,X.dk⟩
theorem SX.state {p:zd}{nb k:Nat}{s s':za}{g:Gh}{o:List Int}(X:SX p nb s g o k) (S':SOk p nb s') (hm:s'.M=s.M):SX p nb s' g o k :=
 ⟨S',by rw [hm];exact X.L,by rw [hm];exact X.D,by rw [hm];exact X.v,X.dk⟩
theorem GX.state {p:zd}{s s':za}{gh:Gh}{g:zB}(G:GX p s gh g) (hm:s'.M=s.M) (hb:s'.Bins=s.Bins):GX p s' gh g :=
 ⟨G.o,G.pc,G.md,G.ob,G.c0,by rw [hm];exact G.c5,by rw [hm,hb];exact G.c7,by rw [hm];exact G.d3⟩
theorem WX.state {p:zd}{s s':za}{gh:Gh}{w:Int}{x:zk}(W:WX p s gh w x) (hm:s'.M=s.M) (hb:s'.Bins=s.Bins):WX p s' gh w x :=
 ⟨W.c0,W.bt,by rw [hm];exact W.p0,by rw [hm];exact W.p1,by rw [hm];exact W.p2,by rw [hm];exact W.p4,fun e=>⟨(W.p6 e).1.state hm hb,(W.p6 e).2⟩⟩
theorem zhI {s s':za}{x:zk}(hm:s'.M=s.M) (hb:s'.Bins=s.Bins):zW s' x=zW s x:=by
 unfold zW Ua yF;rw [hm,hb]
def zDZ (p:zd) (s:za) (g:Gh):List Int:=yE p s g++s.Ws.flatMap (zW s)
structure zcG (B:List Int) (t:zm):Prop where
 blk:∀o,zI t.Black o=true->zI t.Marks o=true
 nd:B.Nodup
 gr:∀o,o∈B↔yh t o=1
theorem VN {t:zm}{o:Int}(h:yh t o=1):1<=o/\o<=64:=by
 have:=(xp _ _).1 ((wY t o).1 h).1;exact ⟨this.1,this.2.1⟩
theorem zcG.more {B B':List Int}{t:zm}{o:Int}(K:zcG B t) (ho:1<=o/\o<=64) (hn: ¬(t.Marks|||bit o=t.Marks)) (h:List.Perm B' (o::B)):zcG B' {t with Marks:=t.Marks|||bit o}:=by
 have hn:=(uU ho).1 hn;have hnb: ¬zI t.Black o=true:=fun e=>hn (K.blk o e);have hno:o∉B:=fun e=>hn ((wY t o).1 ((K.gr o).1 e)).1;refine ⟨fun q hq=>(yN _ ho q).2 (.inl (K.blk q hq)),h.nodup_iff.2 (List.nodup_cons.2 ⟨hno,K.nd⟩),fun q=>?_⟩;rw [h.mem_iff,zJT,K.gr,wY,wY];show q=o\/_↔zI (t.Marks|||bit o) q=true/\¬zI t.Black q=true;rw [yN _ ho];constructor
 .rintro (rfl | ⟨a,b⟩)
  .exact ⟨.inr rfl,hnb⟩
  .exact ⟨.inl a,b⟩
 .rintro ⟨a | a,b⟩
  .exact .inr ⟨a,b⟩
  .exact .inl a
theorem zcG.less {B B':List Int}{t:zm}{o:Int}(K:zcG B t) (h:List.Perm (B'++[o]) B):zcG B' (yX t o)/\(yX t o).Marks=t.Marks/\yh t o=1/\∀q,zI (yX t o).Black q=true↔zI t.Black q=true\/q=o:=by
 have ho:yh t o=1:=(K.gr o).1 (h.mem_iff.1 (by simp));have hr:=VN ho;have hm:=((wY t o).1 ho)
 have hnd:=h.nodup_iff.2 K.nd;have hnd:=zKP.1 hnd;unfold yX;rw [zb ho];refine ⟨⟨fun q hq=>?_,hnd.1,fun q=>?_⟩,rfl,ho,fun q=>yN _ hr q⟩
 .rcases (yN _ hr q).1 hq with e | e
  .exact K.blk q e
  .rw [e];exact hm.1
 .have e1:q∈B↔q∈B'\/q=o:=by rw [<-h.mem_iff,zJZ,zKm]
  rw [K.gr,wY] at e1;rw [wY];show _↔zI t.Marks q=true/\¬zI (t.Black|||bit o) q=true;rw [yN _ hr];constructor
  .intro hq;have:=e1.2 (.inl hq);exact ⟨this.1,fun e=>e.elim this.2 (fun e=>hnd.2.2 q hq o (by simp) e)⟩
  .rintro ⟨a,b⟩;rcases e1.1 ⟨a,fun e=>b (.inl e)⟩ with e | e
   .exact e
   .exact absurd (.inr e) b
theorem HOk.get {p:zd}(hp:zD p) {h:zq}(H:HOk p h) (o i:Int):0<=zN h o i/\zN h o i<=64:=by
 have h1:=H.n;have h2:p.Most<=64:=by have:=hp.most;have:=hp.n;omega
 unfold zN;split
 .unfold zF;rw [zJD,zJD];cases hx:h.Objs[(o-1).toNat]? with
  | none=>show 0<=(([]:List Int)[i.toNat]?).getD 0/\_;simp
  | some l =>
   show 0<=(l[i.toNat]?).getD 0/\(l[i.toNat]?).getD 0<=64;cases hv:l[i.toNat]? with
   | none=>show (0:Int)<=0/\(0:Int)<=64;decide
   | some v =>
    have:=(H.objs l (zJG hx)).2 v (zJG hv);show 0<=v/\v<=64;omega
 .exact ⟨by decide,by decide⟩
structure WG (p:zd) (nb k:Nat) (s:za) (gh:Gh):Prop where
 E:EOk p nb s
 X:SX p nb s gh (s.Ws.flatMap wT) k
 W:∀(i:Nat) x,s.Ws[i]? =some x->WX p s gh ((i:Int)+1) x
 B:zcG (zDZ p s gh) s.T
theorem zpX {N:Int}{nb:Nat}(hN:0<=N/\N<1000) (hnb:nb<1000):∀(l:List Int) (m:List (BitVec 64)) (a:Int),(∀x∈l,1<=x/\x<nb)->(∀x∈l,a≠N+x)->ld (links m N l) a=ld m a
 | [],m,a,_,_=>rfl
 | [x],m,a,h,h2=>by
  have:=h x (by simp);have:=h2 x (by simp);rw [links,yT];exact yy (by omega)
 | x::y::l,m,a,h,h2=>by
  have:=h x (by simp);have:=h2 x (by simp);rw [links,zpX hN hnb (y::l) _ a (fun z hz=>h z (zJI _ hz)) (fun z hz=>h2 z (zJI _ hz)),yT];exact yy (by omega)
theorem zrm {N:Int}{nb:Nat}(hN:0<=N/\N<1000) (hnb:nb<1000):∀(l:List Int) (m:List (BitVec 64)),(∀x∈l,1<=x/\x<nb)->l.Nodup->N+nb<=m.length->Chn (links m N l) N nb (l.headD 0) l
 | [],m,_,_,_=>rfl
 | [x],m,h,_,hl=>by
  have:=h x (by simp);refine ⟨rfl,this.1,this.2,?_⟩;rw [links,yT,W6,zb ⟨rfl,by omega,by omega⟩];rfl
 | x::y::l,m,h,hd,hl=>by
  have hx:=h x (by simp);have hy:=h y (by simp);have hd:=List.nodup_cons.1 hd;refine ⟨rfl,hx.1,hx.2,?_⟩;have ih:=zrm hN hnb (y::l) (st m (wc (N+x)) (BitVec.ofInt 64 y)) (fun z hz=>h z (zJI _ hz)) hd.2 (by rw [Yk];exact hl);rw [links,zpX hN hnb (y::l) _ (N+x) (fun z hz=>h z (zJI _ hz)) (fun z hz e=>hd.1 (by rw [zoQ e] at hz;exact hz)),yT,W6,zb ⟨rfl,by omega,by omega⟩,toInt_ofInt (by omega) (by omega)];rw [yT] at ih;exact ih
theorem Chn.links {N:Int}{nb:Nat}(hN:0<=N/\N<1000) (hnb:nb<1000) {l r:List Int}{h:Int}{m:List (BitVec 64)}(hr:∀x∈r,1<=x/\x<nb) (hd:∀x∈l,x∉r) (c:Chn m N nb h l):Chn (Go.Pe.G.links m N r) N nb h l:=by
 induction l generalizing h with
 | nil=>exact c
 | cons y l ih =>
  refine ⟨c.1,c.2.1,c.2.2.1,?_⟩;rw [zpX hN hnb r m (N+y) hr (fun z hz e=>hd y (by simp) (by rw [zoQ e] at hz;exact hz))];exact ih (fun x hx=>hd x (zJI _ hx)) c.2.2.2
theorem zAN {l:List Int}{nb:Nat}(h:∀x∈l,1<=x/\x<nb) (hnb:nb<1000):0<=l.headD 0/\l.headD 0<4294967296:=by
 cases l with
 | nil=>exact ⟨by decide,by decide⟩
 | cons a r=>have:=h a (by simp);show 0<=a/\a<4294967296;omega
theorem zEC {p:zd}(h:zD p):LI p (z5 p+1) (xl p).M (yc p) (zJ p) ((xI (z5 p)).take (xn p).length) ((xI (z5 p)).drop (xn p).length) []/\xy (ld (xl p).M (yc p))=0/\xy (ld (xl p).M (zJ p))=0:=by
 have hb:=zdW h;have hF:=ZR h;have hE:=wE h;have hcl:=zaJ p p.Workers.toNat;have hw:=h.wk;have hc:=h.cap;have hfe:yc p=((p.Workers.toNat*(p.Cap.toNat+2):Nat):Int):=by
  rw [hF.1];have e1:p.Workers=((p.Workers.toNat:Nat):Int):=by omega
  have e2:p.Cap+2=((p.Cap.toNat+2:Nat):Int):=by omega
  rw [e2,Int.natCast_mul];rw [<-e1]
 have hN:0<=zJ p/\zJ p<1000:=by omega
 have hnb:z5 p+1<1000:=by omega
 generalize hk:(xn p).length=k;have t1:∀x∈(xI (z5 p)).take k,1<=x/\x<((z5 p+1:Nat):Int):=fun x hx=>by have:=zhb (zK8 hx);omega
 have t2:∀x∈(xI (z5 p)).drop k,1<=x/\x<((z5 p+1:Nat):Int):=fun x hx=>by have:=zhb (List.mem_of_mem_drop hx);omega
 have nd:((xI (z5 p)).take k++(xI (z5 p)).drop k).Nodup:=by rw [zLe];exact ztf (z5 p+1)
 have nd3:=zKP.1 nd;have eM:(xl p).M=zdU (zdU (Y4 p p.Workers.toNat++List.replicate (2+z5 p) 0#64) (yc p) (zJ p) ((xI (z5 p)).take k)) (zJ p) (zJ p) ((xI (z5 p)).drop k):=by rw [<-hk];rfl
 rw [eM];generalize hm0:Y4 p p.Workers.toNat++List.replicate (2+z5 p) 0#64=m0;have l0:zJ p+((z5 p+1:Nat):Int)<=m0.length:=by
  rw [<-hm0,zJN,hcl,zKf];omega
 have p1:=zAN t1 hnb;have p2:=zAN t2 hnb;have v0:∀n:Int,0<=n->n<4294967296->xy (xw 0#64 n)=0:=fun n h1 h2=>by
  unfold xy;rw [zvO _ h1 h2];show (0*4294967296+n.toNat)/4294967296=0;omega
 have c1:=zrm hN hnb _ m0 t1 nd3.1 l0;generalize hm1:links m0 (zJ p) ((xI (z5 p)).take k)=m1 at c1;have l1:m1.length=m0.length:=by rw [<-hm1,zek]
 have c1':=(c1.st_head h (a:=yc p) (v:=xw 0#64 (((xI (z5 p)).take k).headD 0)) (.inl rfl)).links hN hnb t2 (fun x hx hx2=>nd3.2.2 x hx x hx2 rfl);have c2:=zrm hN hnb _ (st m1 (yc p) (xw 0#64 (((xI (z5 p)).take k).headD 0))) t2 nd3.2.1 (by rw [Yk,l1];exact l0);have hd1:ld (links (st m1 (yc p) (xw 0#64 (((xI (z5 p)).take k).headD 0))) (zJ p) ((xI (z5 p)).drop k)) (yc p)=xw 0#64 (((xI (z5 p)).take k).headD 0):=by
  rw [zpX hN hnb _ _ _ t2 (fun x hx=>by have:=t2 x hx;omega),W6,zb ⟨rfl,by omega,by omega⟩]
 unfold zdU;rw [hm1];generalize hm2:links (st m1 (yc p) (xw 0#64 (((xI (z5 p)).take k).headD 0))) (zJ p) ((xI (z5 p)).drop k)=m2 at c1' c2 hd1;have l2:m2.length=m0.length:=by rw [<-hm2,zek,Yk,l1]
 have g1:ld (st m2 (zJ p) (xw 0#64 (((xI (z5 p)).drop k).headD 0))) (yc p)=xw 0#64 (((xI (z5 p)).take k).headD 0):=by rw [yy (by omega),hd1]
 have g2:ld (st m2 (zJ p) (xw 0#64 (((xI (z5 p)).drop k).headD 0))) (zJ p)=xw 0#64 (((xI (z5 p)).drop k).headD 0):=by rw [W6,zb ⟨rfl,by omega,by omega⟩]
 refine ⟨⟨.inl ⟨rfl,rfl⟩,?_,?_,?_,by rw [Yk,l2];exact l0⟩,?_,?_⟩
 .rw [g1,zet _ p1.1 p1.2];exact c1'.st_head h (.inr rfl)
 .rw [g2,zet _ p2.1 p2.2];exact c2.st_head h (.inr rfl)
 .rw [zJE,zLe];exact zJ2 _
 .rw [g1];exact v0 _ p1.1 p1.2
 .rw [g2];exact v0 _ p2.1 p2.2
theorem zrQ {N:Int}(hN:0<=N/\N<1000):∀(l:List Int) (m:List (BitVec 64)) (a:Int),(∀x∈l,1<=x/\x<1000)->a<=N->ld (links m N l) a=ld m a
 | [],m,a,_,_=>rfl
 | [x],m,a,h,h2=>by
  have:=h x (by simp);rw [links,yT];exact yy (by omega)
 | x::y::l,m,a,h,h2=>by
  have:=h x (by simp);rw [links,zrQ hN (y::l) _ a (fun z hz=>h z (zJI _ hz)) h2,yT];exact yy (by omega)
theorem zHR {p:zd}(h:zD p) {a:Int}(ha:a<yc p):ld (xl p).M a=ld (Y4 p p.Workers.toNat++List.replicate (2+z5 p) 0#64) a:=by
 have hb:=zdW h;have hF:=ZR h;have hE:=wE h;have t1:∀x∈(xI (z5 p)).take (xn p).length,1<=x/\x<1000:=fun x hx=>by have:=zhb (zK8 hx);omega
 have t2:∀x∈(xI (z5 p)).drop (xn p).length,1<=x/\x<1000:=fun x hx=>by have:=zhb (List.mem_of_mem_drop hx);omega
 show ld (zdU (zdU _ (yc p) (zJ p) _) (zJ p) (zJ p) _) a=_;unfold zdU;rw [yy (by omega),zrQ (by omega) _ _ _ t2 (by omega),yy (by omega),zrQ (by omega) _ _ _ t1 (by omega)]
theorem zyo (p:zd):∀(k i j:Nat),i<k->j<p.Cap.toNat+2->(Y4 p k)[i*(p.Cap.toNat+2)+j]? =(zin p.Cap)[j]?
 | 0,i,j,h,_=>by omega
 | k+1,i,j,h,hj=>by
  rw [znK];have hl:=zaJ p k;rcases zKa i k with h1 | h1
  .have h2:=zKC (p.Cap.toNat+2) (show i+1<=k from h1);rw [Nat.succ_mul] at h2;rw [zJ4 (by omega)];exact zyo p k i j h1 hj
  .have:i=k:=by omega
   subst this;rw [zJ9 (by omega),hl,show i*(p.Cap.toNat+2)+j-i*(p.Cap.toNat+2)=j by omega]
theorem zzG {p:zd}(h:zD p) {w:Int}(hw:1<=w/\w<=p.Workers) {j:Nat}(hj:j<2):ld (xl p).M (zR p w+j)=1#64:=by
 have hd:=YQ h hw.1 hw.2;have hc:=h.cap;have hl:=zaJ p p.Workers.toNat;have hlt:(w-1).toNat<p.Workers.toNat:=by omega
 have e1:(zR p w+j).toNat=(w-1).toNat*(p.Cap.toNat+2)+j:=by
  obtain ⟨n,hn⟩:∃n:Nat,w-1=(n:Int):=⟨(w-1).toNat,by omega⟩
  have e2:p.Cap+2=((p.Cap.toNat+2:Nat):Int):=by omega
  rw [hd.1,hn,e2,<-Int.natCast_mul,zKi];omega
 have h2:=zKC (p.Cap.toNat+2) (show (w-1).toNat+1<=p.Workers.toNat from hlt);rw [Nat.succ_mul] at h2;rw [zHR h (by omega)];unfold ld;rw [zY,e1,zJD,zJ4 (by omega),zyo p _ _ _ hlt (by omega)];unfold zin
 match j,hj with
 | 0,_=>rfl
 | 1,_=>rfl
theorem ztk (n:Nat) (hn:1<=n):∀(f:Nat) (l:List Int),l.length<=f->(vQ n f l).flatten=l
 | 0,l,h=>by
  have:l=[]:=List.length_eq_zero_iff.1 (by omega);subst this;simp [vQ]
 | f+1,[],_=>by simp [vQ]
 | f+1,x::l,h=>by
  have:=ztk n hn f ((x::l).drop n) (by rw [zKR];simp at h ⊢;omega);simp only [vQ,List.flatten_cons] at this ⊢;rw [this,zLe]
theorem zFn {α:Type}(l:List (List α)):(List.range l.length).flatMap (fun i:Nat=>(l[i]?).getD [])=l.flatten:=by
 rw [List.flatMap_def];congr 1;apply List.ext_getElem
 .simp
 .intro i h1 h2;simp [zJC h2]
def gh0 (p:zd):Gh:=⟨(xI (z5 p)).take (xn p).length,(xI (z5 p)).drop (xn p).length,fun _=>[],fun _=>1,fun _=>0⟩
theorem zcl {α β:Type}{f:α->List β}:∀ {l:List α},(∀x∈l,f x=[])->l.flatMap f=[]
 | [],_=>rfl
 | a::l,h=>by rw [zKr,h a (by simp),zcl (fun x hx=>h x (zJI _ hx))];rfl
theorem zC1 {p:zd}(h:zD p):yE p (xl p) (gh0 p)=Va (uV p):=by
 have hb:=h.bin;have hfl:=zpL h;have hbs:=zdW h;have hmost:=h.most;have hw:=h.wk;have hm:=h.mt;have e1:yE p (xl p) (gh0 p)=((xI (z5 p)).take (xn p).length).flatMap (yF (xl p)):=by
  show ((xI (z5 p)).take (xn p).length).flatMap (yF (xl p))++(List.range p.Workers.toNat).flatMap (fun _=>([]:List Int))=_;rw [zcl (f:=fun _=>([]:List Int)) (fun _ _=>rfl),zJE]
 have e2:(xI (z5 p)).take (xn p).length=(List.range (xn p).length).map (fun i:Nat=>(i:Int)+1):=by
  unfold xI;rw [<-List.map_take,List.take_range,Nat.min_eq_left (by omega)]
 rw [e1,e2,List.flatMap_map];have e3:(List.range (xn p).length).flatMap (fun i:Nat=>yF (xl p) ((i:Int)+1))=(List.range (xn p).length).flatMap (fun i:Nat=>((xn p)[i]?).getD []):=by
  refine wx (fun i hi=>?_);have hi:=zJ1.1 hi;unfold yF;show (([[]]++xn p++List.replicate (z5 p-(xn p).length) [])[((i:Int)+1).toNat]?).getD []=_;rw [show ((i:Int)+1).toNat=i+1 by omega,zJJ];show ((xn p++List.replicate (z5 p-(xn p).length) [])[i]?).getD []=_;rw [zJ4 hi]
 rw [e3,zFn];exact ztk _ (by omega) _ _ (zJF _)
theorem zCa (s:BitVec 64):(Va s).Nodup:=by
 unfold Va;rw [List.Nodup,List.pairwise_map];exact (List.nodup_range.filter _).imp (fun h e=>h (by omega))
theorem zEl {s:BitVec 64}(h:s&&& ~~~63#64=0#64) {j:Nat}(hs:s.getLsbD j=true):j<6:=by
 have hj:j<64:=BitVec.lt_of_getLsbD hs;have:=congrArg (fun x=>x.getLsbD j) h;simp only [zKO,zLg,hs,hj,decide_true,zKz,zK6] at this;have h63:(63#64).getLsbD j=decide (j<6):=by
  have:∀j:Fin 64,(63#64).getLsbD j.1=decide (j.1<6):=by decide
  exact this ⟨j,hj⟩
 rw [h63] at this;by_cases e:j<6
 .exact e
 .rw [decide_eq_false e] at this;cases this
theorem zFz {s:BitVec 64}(h:s&&& ~~~63#64=0#64) (o:Int):o∈Va s↔zI s o=true:=by
 unfold Va;rw [xp,zJO];constructor
 .rintro ⟨i,hi,rfl⟩;obtain ⟨h1,h2⟩:=zKW.1 hi;have:=zJ1.1 h1;exact ⟨by omega,by omega,by rw [show ((i:Int)+1-1).toNat=i by omega];exact h2⟩
 .rintro ⟨h1,h2,h3⟩;exact ⟨(o-1).toNat,zKW.2 ⟨zJ1.2 (zEl h h3),h3⟩,by omega⟩
theorem zIP {p:zd}(h:zD p):WG p (z5 p+1) 0 (xl p) (gh0 p):=by
 have hE:=zAV h;obtain ⟨L,v1,v2⟩:=zEC h;have hc:=h.cap;have hws:∀x∈(xl p).Ws,∃i:Nat,x=vX p i:=fun x hx=>by
  obtain ⟨i,_,rfl⟩:=zJO.1 (show x∈(List.range p.Workers.toNat).map (vX p) from hx);exact ⟨i,rfl⟩
 have hb:∀i:Nat,vX p i=UI p ((i:Int)+1) (vX p i):=fun i=>rfl;have own:(xl p).Ws.flatMap wT=[]:=zcl (fun x hx=>by
  obtain ⟨i,rfl⟩:=hws x hx;exact ur (by show (0:Int)≠3;decide) (by show (0:Int)≠4;decide) (by show (0:Int)≠6;decide))
 have hold:(xl p).Ws.flatMap (zW (xl p))=[]:=zcl (fun x hx=>by
  obtain ⟨i,rfl⟩:=hws x hx;unfold zW;rw [hb i,zjW];rfl)
 refine ⟨hE,⟨hE.S,by rw [own];exact L,fun w h1 h2=>?_,?_,fun w _ _=>by show 1+0<=0+1000;decide⟩,fun i x hx=>?_,?_⟩
 .have c0:=zzG h ⟨h1,h2⟩ (j:=0) (by decide);have c1:=zzG h ⟨h1,h2⟩ (j:=1) (by decide);rw [show zR p w+((0:Nat):Int)=zR p w by omega] at c0;exact ⟨c0,c1,by show (0:Nat)<=1;decide,by show (1:Nat)<=1;decide,zKM _,by show 1+0<4294967296;decide,fun i hi=>absurd hi (Nat.not_lt_zero _)⟩
 .rw [v1,v2];exact ⟨zJF _,zJF _⟩
 .have hx:((List.range p.Workers.toNat).map (vX p))[i]? =some x:=hx;rw [zJ8] at hx;cases hr:(List.range p.Workers.toNat)[i]? with
  | none=>rw [hr] at hx;cases hx
  | some j =>
   rw [hr] at hx;injection hx with hx;obtain ⟨h1,h2⟩:=zJK.1 hr;rw [List.getElem_range] at h2;subst h2;rw [<-hx,hb i];exact WX.begin rfl rfl
 .have hs:=zhL h;unfold zDZ;rw [hold,zJE,zC1 h];refine ⟨fun o ho=>absurd ho (ZI o),zCa _,fun o=>?_⟩;rw [zFz hs,wY];exact ⟨fun e=>⟨e,ZI o⟩,fun e=>e.1⟩
theorem zx7 (n:Nat) (hn:1<=n):∀(f:Nat) (l c:List Int),c∈vQ n f l->c≠[]
 | 0,l,c,h=>by simp [vQ] at h
 | f+1,[],c,h=>by simp [vQ] at h
 | f+1,x::l,c,h=>by
  simp only [vQ,zJT] at h;rcases h with h | h
  .rw [h]
   match n,hn with
   | m+1,_=>exact List.cons_ne_nil _ _
  .exact zx7 n hn f _ c h
theorem zIC {p:zd}(h:zD p):∀y∈(gh0 p).F,yF (xl p) y≠[]:=by
 intro y hy;have hb:=h.bin;have hfl:=zpL h;have hbs:=zdW h;have hmost:=h.most;have hw:=h.wk;have hm:=h.mt;have hy:y∈(xI (z5 p)).take (xn p).length:=hy;have e2:(xI (z5 p)).take (xn p).length=(List.range (xn p).length).map (fun i:Nat=>(i:Int)+1):=by
  unfold xI;rw [<-List.map_take,List.take_range,Nat.min_eq_left (by omega)]
 rw [e2] at hy;obtain ⟨i,hi,rfl⟩:=zJO.1 hy;have hi:=zJ1.1 hi;unfold yF;show (([[]]++xn p++List.replicate (z5 p-(xn p).length) [])[((i:Int)+1).toNat]?).getD []≠[];rw [show ((i:Int)+1).toNat=i+1 by omega,zJJ];show ((xn p++List.replicate (z5 p-(xn p).length) [])[i]?).getD []≠[];rw [zJ4 hi,zJC hi];exact zx7 _ (by omega) _ _ _ (zJY hi)
def noD (base cap:Int):zg:=⟨0,0,base,cap,0#64,0#64,0,0⟩
def zkK (o:zg):Prop:=o.Kind=2/\o.Out=0/\(o.PC=2\/o.PC=4\/o.PC=5\/(o.PC=3/\o.T=o.B-1#64))
instance (o:zg):Decidable (zkK o):=by unfold zkK;infer_instance
def zgL (m:List (BitVec 64)) (base:Int) (o:zg):BitVec 64:=if zkK o then ld m (wc (base+1))+1#64 else ld m (wc (base+1))
def Y7 (m:List (BitVec 64)) (base cap:Int) (top:BitVec 64) (n:Nat):List Int:=(List.range n).map (fun j:Nat=>(ld m (Xf (noD base cap) (top+BitVec.ofNat 64 j))).toInt)
def UF (m:List (BitVec 64)) (base cap:Int) (o:zg):List Int :=
 if ¬0<(zgL m base o-ld m base).toInt\/(min (uA (noD base cap)).toNat 64)<(zgL m base o-ld m base).toNat then []
 else Y7 m base cap (ld m base) (zgL m base o-ld m base).toNat
theorem zHJ {p:zd}(h:zD p) (b:Int):(uA (noD b p.Cap)).toNat=p.Cap.toNat:=by
 have hc:=h.cap;have hx:p.Cap=1\/p.Cap=2\/p.Cap=3:=by omega
 unfold uA noD;rcases hx with e | e | e<;>simp only [e]<;>decide
theorem zCO {a b:Nat}(h:b<=a) (h2:a<4294967296):BitVec.ofNat 64 a-BitVec.ofNat 64 b=BitVec.ofNat 64 (a-b):=ziG h (by omega)
theorem zzQ {p:zd}(h:zD p) {m:List (BitVec 64)}{w:Int}{t c:Nat}{l:List Int}{o:zg}(hw:1<=w/\w<=p.Workers) (D:DQ p m w t l c) (he:zgL m (zR p w) o=BitVec.ofNat 64 (t+l.length)):UF m (zR p w) p.Cap o=l:=by
 have hs:=D.small;have hcap:=D.cap;have hc:=h.cap;have ed:zgL m (zR p w) o-ld m (zR p w)=BitVec.ofNat 64 l.length:=by
  rw [he,D.top,zCO (by omega) hs];congr 1;omega
 unfold UF;rw [ed,ZZ (by omega),zHJ h];by_cases hl:l=[]
 .subst hl;rw [zb (.inl (by decide))]
 .have hpos:0<l.length:=List.length_pos_iff.2 hl;have:0<(BitVec.ofNat 64 l.length).toInt:=by
   have:=(zhY (a:=t+l.length) (b:=t) hs (by omega)).2 (by omega);rw [zCO (by omega) hs] at this;rwa [show t+l.length-t=l.length by omega] at this
  rw [zi];unfold Y7;apply List.ext_getElem
  .simp
  .intro i h1 h2;rw [List.getElem_map,List.getElem_range,D.top,zem (by omega),zik h hw rfl rfl (by omega),D.cell i h2]
theorem zFe {p:zd}(h:zD p) {m:List (BitVec 64)}{w:Int}{t c:Nat}{o:zg}(D:DQ p m w t [] c) (he:zgL m (zR p w) o=BitVec.ofNat 64 (t-1)):UF m (zR p w) p.Cap o=[]:=by
 have hs:=D.small;unfold UF;refine zb (.inl (fun e=>?_));rw [he,D.top] at e;have:=(zhY (by have:t+0<4294967296:=hs;omega) (by have:t+0<4294967296:=hs;omega)).1 e;omega
theorem zAE {p:zd}(h:zD p) {w:Int}(hw:1<=w/\w<=p.Workers):wc (zR p w+1)=zR p w+1:=by
 have hd:=YQ h hw.1 hw.2;have hf:=ZR h;have hc:=h.cap;exact yT
theorem zug {p:zd}(h:zD p) {m:List (BitVec 64)}{w:Int}{t:Nat}{l:List Int}{o:zg}(hw:1<=w/\w<=p.Workers) (D:DQ p m w t l 0) (ho: ¬zkK o):UF m (zR p w) p.Cap o=l:=by
 refine zzQ h hw D ?_;unfold zgL;rw [zc ho,zAE h hw,D.bot];rfl
theorem zEt {p:zd}(h:zD p) {m:List (BitVec 64)}{w:Int}{t c:Nat}{l:List Int}{o:zg}(hw:1<=w/\w<=p.Workers) (D:DQ p m w t l c) (K:PK p m w t l c o):UF m (zR p w) p.Cap o=l:=by
 have hs:=D.small;have ht:=D.t1;have hpc:=K.pc;by_cases h1:zkK o
 .have hc:c=1:=by
   rcases h1.2.2 with e | e | e | ⟨e,e2⟩
   .exact K.c1 (.inl e)
   .exact K.c1 (.inr (by omega))
   .exact K.c1 (.inr (by omega))
   .exact K.c3 e e2
  subst hc;refine zzQ h hw D ?_;unfold zgL;rw [zb h1,zAE h hw,D.bot,show (1#64:BitVec 64)=BitVec.ofNat 64 1 from rfl,zem (by omega)];congr 1;omega
 .have hn: ¬(o.PC=2\/o.PC=4\/o.PC=5\/(o.PC=3/\o.T=o.B-1#64)):=fun e=>h1 ⟨K.kind,K.out,e⟩;by_cases h6:o.PC=6
  .have hl:=K.e5 (by omega);have hc:=K.c1 (.inr (by omega));subst hl;subst hc;refine zFe h D ?_;unfold zgL;rw [zc h1,zAE h hw,D.bot];rfl
  .have hc:c=0:=by
    by_cases h3:o.PC=3
    .exact (K.n3 h3 (fun e=>hn (.inr (.inr (.inr ⟨h3,e⟩))))).1
    .exact K.c0 (by omega)
   subst hc;exact zug h hw D h1
theorem zG0:∀(t:Fin 512) (k:Fin 9),BitVec.ofNat 64 t.1|||bit ((k.1:Int)+1)=BitVec.ofNat 64 t.1\/cnt (BitVec.ofNat 64 t.1|||bit ((k.1:Int)+1))=cnt (BitVec.ofNat 64 t.1)+1:=by decide +kernel
theorem zzP {s:BitVec 64}(h:∀o,zI s o=true->o<=9):∃t:Fin 512,s=BitVec.ofNat 64 t.1:=by
 have h2:s=s&&&511#64:=by
  apply zK5;intro j hj;rw [zKO];have h63:(511#64).getLsbD j=decide (j<9):=by
   have:∀j:Fin 64,(511#64).getLsbD j.1=decide (j.1<9):=by decide
   exact this ⟨j,hj⟩
  rw [h63];cases hs:s.getLsbD j with
  | false=>rfl
  | true =>
   have:=h ((j:Int)+1) ((xp _ _).2 ⟨by omega,by omega,by rw [show ((j:Int)+1-1).toNat=j by omega];exact hs⟩);rw [decide_eq_true (by omega:j<9)];rfl
 have h3:s.toNat<512:=by
  rw [h2,zKF];exact zLh Nat.and_le_right (by decide)
 exact ⟨⟨s.toNat,h3⟩,by rw [BitVec.ofNat_toNat,BitVec.setWidth_eq]⟩
theorem zFl {s:BitVec 64}(h:∀o,zI s o=true->o<=9) {o:Int}(ho:1<=o/\o<=9) (hn: ¬zI s o=true):cnt (s|||bit o)=cnt s+1:=by
 obtain ⟨t,rfl⟩:=zzP h;have:=zG0 t ⟨(o-1).toNat,by omega⟩;rw [show (((o-1).toNat:Nat):Int)+1=o by omega] at this;rcases this with e | e
 .exact absurd e ((uU ⟨ho.1,by omega⟩).2 hn)
 .exact e
theorem zzJ:∀(l:List Int) (s:BitVec 64) (q:Int),(∀o∈l,1<=o/\o<=64)->(zI (l.foldl (fun s o=>s|||bit o) s) q=true↔zI s q=true\/q∈l)
 | [],s,q,_=>by simp
 | a::l,s,q,h=>by
  rw [zKq,zzJ l _ q (fun o ho=>h o (zJI _ ho)),yN _ (h a (by simp)),zJT,or_assoc]
theorem zAb:∀(l:List Int) (s:BitVec 64),(∀o∈l,1<=o/\o<=9)->(∀o,zI s o=true->o<=9)->l.Nodup->(∀o∈l,¬zI s o=true)->cnt (l.foldl (fun s o=>s|||bit o) s)=cnt s+(l.length:Int)
 | [],s,_,_,_,_=>by simp
 | a::l,s,h,hs,hd,hn=>by
  have ha:=h a (by simp);have hd:=List.nodup_cons.1 hd;have ha64:1<=a/\a<=64:=by omega
  rw [zKq,zAb l _ (fun o ho=>h o (zJI _ ho)) (fun o ho=>?_) hd.2 (fun o ho e=>?_),zFl hs ha (hn a (by simp)),zJS]
  .omega
  .rcases (yN _ ha64 o).1 ho with e | e
   .exact hs o e
   .omega
  .rcases (yN _ ha64 o).1 e with e | e
   .exact hn o (zJI _ ho) e
   .exact hd.1 (e▸ho)
theorem zDY:∀t:Fin 512,cnt (BitVec.ofNat 64 t.1)<=9:=by decide +kernel
theorem zwd {s:BitVec 64}(h:∀o,zI s o=true->o<=9):cnt s<=9:=by
 obtain ⟨t,rfl⟩:=zzP h;exact zDY t
theorem zA1:cnt 0#64=0:=by decide +kernel
theorem zCY {l:List Int}(h:∀o∈l,1<=o/\o<=9) (hd:l.Nodup):cnt (Uw l)=(l.length:Int)/\∀q,zI (Uw l) q=true↔q∈l:=by
 refine ⟨?_,fun q=>?_⟩
 .unfold Uw;rw [zAb l _ h (fun o e=>absurd e (ZI o)) hd (fun o _=>ZI o),zA1,Int.zero_add]
 .unfold Uw;rw [zzJ l _ q (fun o ho=>by have:=h o ho;omega)];exact ⟨fun e=>e.resolve_left (ZI q),.inr⟩
theorem zd2 (s:BitVec 64) {q:Int}(h:1<=q/\q<=64):zI (~~~s) q=true↔¬zI s q=true:=by
 rw [xp,xp,zLg];simp only [show (q-1).toNat<64 by omega,decide_true,zKz,zJU];constructor
 .rintro ⟨_,_,e⟩ ⟨_,_,e2⟩;rw [e] at e2;cases e2
 .intro e;refine ⟨h.1,h.2,?_⟩;cases hs:s.getLsbD (q-1).toNat with
  | false=>rfl
  | true=>exact absurd ⟨h.1,h.2,hs⟩ e
theorem zyb {α β:Type}{f g:α->List β}:∀(l:List α),List.Perm (l.flatMap (fun x=>f x++g x)) (l.flatMap f++l.flatMap g)
 | []=>zJ2 _
 | a::l=>by
  rw [zKr,zKr,zKr];refine (zJP _ (zyb l)).trans ?_;simp only [zJJ];exact zJP _ (zKh _ _ _)
theorem zu5 {α β:Type}{f:α->List β}(l:List α):(List.range l.length).flatMap (fun i:Nat=>(l[i]?).elim [] f)=l.flatMap f:=by
 rw [List.flatMap_def,List.flatMap_def];congr 1;apply List.ext_getElem
 .simp
 .intro i h1 h2;have hi:i<l.length:=by simpa using h2
  simp [zJC hi]
theorem zDq {m:List (BitVec 64)}{base cap:Int}{top:BitVec 64}(hc:cap<1000) (e:BitVec 64) (h:(e-top).toNat<=64) :
  zX ym (m,e,top,zg.mk 0 0 base cap 0#64 0#64 0 0,([]:List Int),())=some (.brk (Y7 m base cap top (e-top).toNat,())):=by
 have he:e=top+BitVec.ofNat 64 (e-top).toNat:=by
  rw [BitVec.ofNat_toNat,BitVec.setWidth_eq,BitVec.add_comm,BitVec.sub_add_cancel]
 generalize (e-top).toNat=n at he h;subst he;have:=zHx (f:=ym) (fun (i:Int) (_:Unit)=>(m,top+BitVec.ofNat 64 n,top+BitVec.ofNat 64 i.toNat,zg.mk 0 0 base cap 0#64 0#64 0 0,Y7 m base cap top i.toNat,())) (fun _=>(Y7 m base cap top n,())) n (by omega) (fun _ _=>()) (fun _=>True) (fun _ _ _=>trivial)
  (fun i _ hi _=>by
   have hne: ¬(top+BitVec.ofNat 64 i=top+BitVec.ofNat 64 n):=fun e=>by
    have e:=congrArg (fun x=>x-top) e;rw [BitVec.add_comm top,BitVec.add_comm top,BitVec.add_sub_cancel,BitVec.add_sub_cancel] at e;have:=zxV (by omega) (by omega) e;omega
   have e2:top+BitVec.ofNat 64 i+1#64=top+BitVec.ofNat 64 (i+1):=by
    rw [BitVec.add_assoc,show (1#64:BitVec 64)=BitVec.ofNat 64 1 from rfl,zem (by omega)]
   have e3:Y7 m base cap top (i+1)=Y7 m base cap top i++[(ld m (Xf (zg.mk 0 0 base cap 0#64 0#64 0 0) (top+BitVec.ofNat 64 i))).toInt]:=by
    unfold Y7 noD;rw [zKY,List.map_append];rfl
   have el:(Y7 m base cap top i).length=i:=by unfold Y7;simp
   show ym (m,top+BitVec.ofNat 64 n,top+BitVec.ofNat 64 i,zg.mk 0 0 base cap 0#64 0#64 0 0,Y7 m base cap top i,())=some (.again (m,top+BitVec.ofNat 64 n,top+BitVec.ofNat 64 (i+1),zg.mk 0 0 base cap 0#64 0#64 0 0,Y7 m base cap top (i+1),()));rw [zfH,ya,zc hne,zhE (show (zg.mk 0 0 base cap 0#64 0#64 0 0).Cap<1000 from hc),zJA,YZ,zJA,yC (by rw [zJN,el];simp;omega),zJA,e2,e3])
  (fun _ _=>by
   show ym (m,top+BitVec.ofNat 64 n,top+BitVec.ofNat 64 n,zg.mk 0 0 base cap 0#64 0#64 0 0,Y7 m base cap top n,())=_;rw [zfH,ya,zb rfl]) (s:=()) trivial
 have e0:top+BitVec.ofNat 64 (0:Int).toNat=top:=by show top+0#64=top;rw [BitVec.add_zero]
 simp only [e0] at this;exact this
theorem zHF (S d:BitVec 64):((bif decide (64#64<S) then 64#64 else S)<d)↔min S.toNat 64<d.toNat:=by
 rw [zo];by_cases h:64#64<S
 .rw [zb h];have h':64<S.toNat:=h;show 64<d.toNat↔_;rw [Nat.min_eq_right (by omega)]
 .rw [zc h];have h': ¬64<S.toNat:=h;show S.toNat<d.toNat↔_;rw [Nat.min_eq_left (by omega)]
theorem zCb {m:List (BitVec 64)}{base cap:Int}(hc:cap<1000) (o:zg):wi m base cap o=some (UF m base cap o,()):=by
 have hl:=fun e h=>zDq (m:=m) (base:=base) (cap:=cap) (top:=ld m base) hc e h;have hlim:=fun d=>zHF (uA (noD base cap)) d;unfold noD at hlim;have done:∀e:BitVec 64,∀ {b:Option (List Int×Unit)},(¬0<(e-ld m base).toInt->b=some ([],()))->(0<(e-ld m base).toInt->(min (uA (noD base cap)).toNat 64<(e-ld m base).toNat)->b=some ([],()))->(0<(e-ld m base).toInt->¬(min (uA (noD base cap)).toNat 64<(e-ld m base).toNat)->b=some (Y7 m base cap (ld m base) (e-ld m base).toNat,())) ->
   b=some (if ¬0<(e-ld m base).toInt\/(min (uA (noD base cap)).toNat 64)<(e-ld m base).toNat then [] else Y7 m base cap (ld m base) (e-ld m base).toNat,()):=by
  intro e b h1 h2 h3;by_cases a:0<(e-ld m base).toInt
  .by_cases c:min (uA (noD base cap)).toNat 64<(e-ld m base).toNat
   .rw [zb (.inr c)];exact h2 a c
   .rw [zc (by rintro (x | x);exact x a;exact c x)];exact h3 a c
  .rw [zb (.inl a)];exact h1 a
 rw [zt2];simp only [Zr,xD,xC,zJA,YZ,zd0,zpE];unfold UF;by_cases h:zkK o
 .have he:zgL m base o=ld m (wc (base+1))+1#64:=by unfold zgL;rw [zb h]
  rw [he];obtain ⟨k,u,pc⟩:=h;rcases pc with p | p | p | ⟨p,t⟩
  all_goals
   first | simp only [k,u,p,t,Int.reduceEq,decide_true,decide_false,cond_true,cond_false] | simp only [k,u,p,Int.reduceEq,decide_true,decide_false,cond_true,cond_false]
   generalize ld m (wc (base+1))+1#64=e;refine done e (fun a=>?_) (fun a c=>?_) (fun a c=>?_)
   .simp only [decide_eq_false a,Bool.not_false,cond_true]
   .simp only [decide_eq_true a,zJQ,cond_false];rw [zo,zb ((hlim (e-ld m base)).2 c)]
   .simp only [decide_eq_true a,zJQ,cond_false];rw [zo,zc (fun x=>c ((hlim (e-ld m base)).1 x)),hl e (by omega)];rfl
 .have he:zgL m base o=ld m (wc (base+1)):=by unfold zgL;rw [zc h]
  rw [he];have fin:∀b:Option (List Int×Unit),(b=(bif !decide (0<(ld m (wc (base+1))-ld m base).toInt) then some ([],()) else bif decide ((bif decide (64#64<uA (noD base cap)) then 64#64 else uA (noD base cap))<(ld m (wc (base+1))-ld m base)) then some ([],()) else (zX ym (m,ld m (wc (base+1)),ld m base,zg.mk 0 0 base cap 0#64 0#64 0 0,([]:List Int),())).bind (fun st=>match st with | .again _=>none | .brk y=>some (y.1,()) | .ret y=>none)))->b=some (if ¬0<(ld m (wc (base+1))-ld m base).toInt\/(min (uA (noD base cap)).toNat 64)<(ld m (wc (base+1))-ld m base).toNat then [] else Y7 m base cap (ld m base) (ld m (wc (base+1))-ld m base).toNat,()):=by
   intro b hb;rw [hb];generalize ld m (wc (base+1))=e;refine done e (fun a=>?_) (fun a c=>?_) (fun a c=>?_)
   .simp only [decide_eq_false a,Bool.not_false,cond_true]
   .simp only [decide_eq_true a,zJQ,cond_false];rw [zo];exact zb ((hlim (e-ld m base)).2 c)
   .simp only [decide_eq_true a,zJQ,cond_false];rw [zo];refine (zc (fun x=>c ((hlim (e-ld m base)).1 x))).trans ?_;rw [hl e (by omega)];rfl
  refine fin _ ?_;by_cases k:o.Kind=2
  .by_cases u:o.Out=0
   .have pc: ¬(o.PC=2\/o.PC=4\/o.PC=5\/(o.PC=3/\o.T=o.B-1#64)):=fun e=>h ⟨k,u,e⟩;have p2: ¬o.PC=2:=fun e=>pc (.inl e);have p4: ¬o.PC=4:=fun e=>pc (.inr (.inl e));have p5: ¬o.PC=5:=fun e=>pc (.inr (.inr (.inl e)));by_cases p3:o.PC=3
    .have t: ¬o.T=o.B-1#64:=fun e=>pc (.inr (.inr (.inr ⟨p3,e⟩)));simp only [decide_eq_true k,decide_eq_true u,decide_eq_false p2,decide_eq_false p4,decide_eq_false p5,decide_eq_true p3,decide_eq_false t,cond_true,cond_false];rfl
    .simp only [decide_eq_true k,decide_eq_true u,decide_eq_false p2,decide_eq_false p4,decide_eq_false p5,decide_eq_false p3,cond_true,cond_false];rfl
   .simp only [decide_eq_true k,decide_eq_false u,cond_true,cond_false];rfl
  .simp only [decide_eq_false k,cond_true,cond_false];rfl
theorem zFP (m:List (BitVec 64)) (base cap:Int) (o:zg):(UF m base cap o).length<=64:=by
 unfold UF;split
 .simp
 .rename_i h;unfold Y7;rw [zKv,List.length_range];omega
def uK (x:ze):List Int:=if x.PC=33\/x.PC=34 then [x.Bin] else if x.PC=3\/x.PC=37 then wv x.G else []
def zbU (s:za) (x:ze):List Int:=if x.PC=33 then yF s x.Bin else if x.PC=36\/x.PC=38 then [x.Obj] else if x.PC=37 then x.Obj::yt x.G else if x.PC=3 then yt x.G else []
def z8 (s:za) (x:ze):List Int:=x.Batch++zbU s x
structure MX (p:zd) (s:za) (gh:Gh) (x:ze):Prop where
 bt:x.PC<=33->x.Batch=[]
 bf:∀v∈x.Buf,1<=v/\v<=64
 ol:(x.PC=21->0<=x.Old/\x.Old<=64)/\(x.PC=22\/((x.PC=1\/x.PC=3)/\x.Ret=22)->1<=x.Old/\x.Old<=64)
 p3:x.PC=3->GX p s gh x.G/\x.G.Mode=2/\x.G.Out=0
 p32:x.PC=32->x.C.Out=0/\(0<=x.C.PC/\x.C.PC<=2)/\CK p s.M x.C
 p34:x.PC=34->x.C.Out=0/\(0<=x.C.PC/\x.C.PC<=2)/\x.C.X=x.Bin/\CK p s.M x.C
 p37:x.PC=37->GX p s gh x.G/\x.G.Mode=3/\x.G.Out=0
theorem MX.plain {p:zd}{s:za}{gh:Gh}{x:ze}(h:x.PC≠3/\x.PC≠32/\x.PC≠34/\x.PC≠37) (bt:x.PC<=33->x.Batch=[]) (bf:∀v∈x.Buf,1<=v/\v<=64)
  (ol:(x.PC=21->0<=x.Old/\x.Old<=64)/\(x.PC=22\/((x.PC=1\/x.PC=3)/\x.Ret=22)->1<=x.Old/\x.Old<=64)):MX p s gh x :=
 ⟨bt,bf,ol,fun e=>by omega,fun e=>by omega,fun e=>by omega,fun e=>by omega⟩
theorem v9 {x:ze}(h:x.PC≠3/\x.PC≠33/\x.PC≠34/\x.PC≠37):uK x=[]:=by unfold uK;rw [zi,zi]
theorem zdT {x:ze}(h:x.PC=33\/x.PC=34):uK x=[x.Bin]:=by unfold uK;rw [zb h]
theorem ziw {x:ze}(h:x.PC=3\/x.PC=37):uK x=wv x.G:=by unfold uK;rw [zi,zb h]
theorem uS {s:za}{x:ze}(h:x.PC≠3/\x.PC≠33/\x.PC≠36/\x.PC≠37/\x.PC≠38):zbU s x=[]:=by unfold zbU;rw [zi,zi,zi,zi]
theorem zsE {s:za}{x:ze}(h:x.PC=33):zbU s x=yF s x.Bin:=by unfold zbU;rw [zb h]
theorem UW {s:za}{x:ze}(h:x.PC=36\/x.PC=38):zbU s x=[x.Obj]:=by unfold zbU;rw [zi,zb h]
theorem zsz {s:za}{x:ze}(h:x.PC=37):zbU s x=x.Obj::yt x.G:=by unfold zbU;rw [zi,zi,zb h]
theorem zrc {s:za}{x:ze}(h:x.PC=3):zbU s x=yt x.G:=by unfold zbU;rw [zi,zi,zi,zb h]
theorem MX.other {p:zd}(hp:zD p) {nb k:Nat}{s s':za}{gh gh':Gh}{X R:List Int}{O:Int->Prop}{m:Int}{x:ze}(Y:SX p nb s gh (X++R) k) (Fx:FX p nb X O s s' gh gh') (K:MX p s gh x) (W:XOk p nb m x)
  (hR:∀b∈uK x,b∈R):MX p s' gh' x/\z8 s' x=z8 s x:=by
 have hsub:∀b∈X,b∈X++R:=fun b hb=>zJV _ hb;have hnd:=(zKP.1 Y.L.nodup).2.1;have hnot:∀b,b∈uK x->b∉X:=fun b hb hg=>(zKP.1 hnd).2.2 b hg b (hR b hb) rfl;refine ⟨⟨K.bt,K.bf,K.ol,fun e=>?_,fun e=>?_,fun e=>?_,fun e=>?_⟩,?_⟩
 .obtain ⟨a,b,c⟩:=K.p3 e;obtain ⟨M,_,_⟩:=W.g (.inl e);exact ⟨a.other hp Y Fx M (fun y hy=>hR y (by rw [ziw (.inl e)];exact hy)) (fun e2=>by omega),b,c⟩
 .obtain ⟨a,b,c⟩:=K.p32 e;have C:=W.c32 e;exact ⟨a,b,c.mv Y.L Fx.mv hsub (.inl C.h) (fun h _=>C.v h) (fun e2=>by have:=C.k;omega)⟩
 .obtain ⟨a,b,c,d⟩:=K.p34 e;have C:=W.c34 e;have hno:=hnot x.Bin (by rw [zdT (.inr e)];simp);exact ⟨a,b,c,d.mv Y.L Fx.mv hsub (.inr C.h) (fun _ e2=>by have:=C.k;omega) (fun _=>⟨C.x.1,C.x.2,by rw [c];exact hno⟩)⟩
 .obtain ⟨a,b,c⟩:=K.p37 e;obtain ⟨M,_,_⟩:=W.g (.inr e);exact ⟨a.other hp Y Fx M (fun y hy=>hR y (by rw [ziw (.inr e)];exact hy)) (fun e2=>by omega),b,c⟩
 .unfold z8;congr 1;by_cases e3:x.PC=33
  .rw [zsE e3,zsE e3];have hb:=W.b33 e3;have hno:=hnot x.Bin (by rw [zdT (.inl e3)];simp);unfold yF;rw [Fx.bn x.Bin hb.1 hno]
  .unfold zbU;rw [zc e3,zc e3]
def zg0 (p:zd) (nb k:Nat) (R:List Int) (gh:Gh) (s:za) (x:ze) (s':za) (x':ze):Prop :=
 ∃gh',SX p nb s' gh' (uK x'++R) (k+1)/\MX p s' gh' x'/\FX p nb (uK x) (fun _=>False) s s' gh gh' /\
  ∃N B,List.Perm (yE p s' gh'++z8 s' x'++B) (N++(yE p s gh++z8 s x)) /\
   ((N=[]/\B=[]/\s'.T=s.T)\/(N=[x.G.Obj]/\B=[]/\(x.PC=3\/x.PC=37)/\¬(s.T.Marks|||bit x.G.Obj=s.T.Marks)/\s'.T={s.T with Marks:=s.T.Marks|||bit x.G.Obj})\/(N=[]/\B=[x.Obj]/\x.PC=38/\s'.T=yX s.T x.Obj) \/
    (N=[]/\B=[]/\x.PC=30/\Zz s.H s.P.Most=true/\s'.H=yB s.H/\s'.T=Y2 s.T (wc (s.H.Objs.length+1))))
theorem zg0.quiet {p:zd}{nb k:Nat}{R:List Int}{gh:Gh}{s s':za}{x x':ze}(X:SX p nb s gh (uK x++R) k) (S':SOk p nb s') (hm:s'.M=s.M) (hb:s'.Bins=s.Bins) (hT:s'.T=s.T)
  (ho:uK x'=uK x) (hh:List.Perm (z8 s' x') (z8 s x)) (W':MX p s' gh x'):zg0 p nb k R gh s x s' x' :=
 ⟨gh,by rw [ho];exact X.quiet S' hm,W',FX.quiet hm (fun _ _ _=>by rw [hb]),[],[],by rw [Zd hb,zJE];exact zJP _ hh,.inl ⟨rfl,rfl,hT⟩⟩
theorem zg0.calm {p:zd}{nb k:Nat}{R:List Int}{gh:Gh}{s s':za}{x x':ze}(X:SX p nb s gh (uK x++R) k) (S':SOk p nb s') (hm:s'.M=s.M) (hb:s'.Bins=s.Bins) (hT:s'.T=s.T)
  (h:x.PC≠3/\x.PC≠33/\x.PC≠34/\x.PC≠36/\x.PC≠37/\x.PC≠38) (h':x'.PC≠3/\x'.PC≠32/\x'.PC≠33/\x'.PC≠34/\x'.PC≠36/\x'.PC≠37/\x'.PC≠38) (eb:x'.Batch=x.Batch)
  (bt:x'.PC<=33->x'.Batch=[]) (bf:∀v∈x'.Buf,1<=v/\v<=64) (ol:(x'.PC=21->0<=x'.Old/\x'.Old<=64)/\(x'.PC=22\/((x'.PC=1\/x'.PC=3)/\x'.Ret=22)->1<=x'.Old/\x'.Old<=64)):zg0 p nb k R gh s x s' x':=by
 refine .quiet X S' hm hb hT ?_ ?_ (MX.plain (by omega) bt bf ol)
 .rw [v9 (by omega),v9 (by omega)]
 .unfold z8;rw [uS (by omega),uS (by omega),eb]
theorem zwb {p:zd}{s:za}{gh:Gh}{md o w:Int}(hmd:md=2\/md=3) (ho:1<=o/\o<=64):GX p s gh (Ym md o w)/\(Ym md o w).Mode=md/\(Ym md o w).Out=0/\wv (Ym md o w)=[]/\yt (Ym md o w)=[]:=by
 refine ⟨GX.plain (.inl rfl) ⟨by show (0:Int)<=0;decide,by show (0:Int)<=7;decide⟩ ⟨by show 1<=md;omega,by show md<=3;omega⟩ ho (fun e=>by have e:md=1:=e;omega) (.inr ⟨by show (0:Int)≠3;decide,by show (0:Int)≠5;decide,by show (0:Int)≠7;decide⟩),rfl,rfl,
  vA (.inr ⟨by show (0:Int)≠6;decide,by show (0:Int)≠7;decide⟩),ZM (.inr (.inl (by show (0:Int)<3;decide)))⟩
theorem zJk {p:zd}(hp:zD p) {nb k:Nat}{R:List Int}{gh:Gh}{s:za}{m:Int}{x:ze}(hk:k<4294960000) (X:SX p nb s gh (uK x++R) k) (W:XOk p nb m x) (K:MX p s gh x) (hpl:((vm p m).length:Int)<=64)
  (hH:∀o i,0<=zN s.H o i/\zN s.H o i<=64):zg0 p nb k R gh s x (zp s m x).1 (zp s m x).2:=by
 have S':=(zE9 hp hpl X.S W).1;have hP:=X.S.P;have eC:zcJ s.P (zJ s.P) x.Bin=zcJ p (zJ p) x.Bin:=by rw [hP]
 have hbf:=K.bf;have hol:=K.ol;revert S';refine xG (motive:=fun r=>SOk p nb r.1->zg0 p nb k R gh s x r.1 r.2) s m x ?_ ?_ ?_ ?_ ?_ ?_ ?_ ?_ ?_ ?_ ?_ ?_ ?_ ?_ ?_ ?_ ?_ ?_ ?_ ?_
 .intro c;unfold mu0 UU;dsimp only;have hbt:=K.bt (by omega)
  repeat' split
  all_goals (intro S')
  all_goals (refine .calm X S' rfl rfl rfl (by omega) (by (try dsimp only [setM]);omega) rfl (fun _=>hbt) hbf ⟨fun e=>?_,fun e=>?_⟩<;>((try dsimp only [setM] at e);omega))
 .intro c;unfold mu1;dsimp only;have hbt:=K.bt (by omega);have hrt:=W.ret (.inl c);split
  .intro S';exact .calm X S' rfl rfl rfl (by omega) (by dsimp only;omega) rfl (fun _=>hbt) hbf ⟨fun e=>by dsimp only at e;omega,fun e=>by dsimp only at e ⊢;exact hol.2 (by omega)⟩
  .rename_i hl;intro S';have hv:1<=x.Buf.getD (x.Buf.length-1) 0/\x.Buf.getD (x.Buf.length-1) 0<=64:=by
    rw [zJD,zJC (show x.Buf.length-1<x.Buf.length by omega)];exact hbf _ (zJY _)
   obtain ⟨g1,g2,g3,g4,g5⟩:=zwb (p:=p) (s:=s) (gh:=gh) (w:=m) (.inl rfl) hv;refine .quiet X S' rfl rfl rfl ?_ ?_ ⟨fun _=>hbt,fun v hv=>hbf v (zK8 hv),⟨fun e=>(by cases e),fun e=>?_⟩,fun _=>⟨g1,g2,g3⟩,fun e=>(by cases e),fun e=>(by cases e),fun e=>(by cases e)⟩
   .rw [v9 (x:=x) (by omega),ziw (.inl rfl)];exact g4
   .unfold z8;rw [uS (x:=x) (by omega),zrc rfl];show List.Perm (x.Batch++yt (Ym 2 (x.Buf.getD (x.Buf.length-1) 0) m)) _;rw [g5]
   .rcases e with e | e
    .cases e
    .exact hol.2 (.inr ⟨.inl c,e.2⟩)
 .intro c S';unfold mu2 at S' ⊢;exact .calm X S' rfl rfl rfl (by omega) (by dsimp only;omega) rfl (fun _=>K.bt (by omega)) hbf ⟨fun e=>by dsimp only at e;omega,fun e=>by dsimp only at e;omega⟩
 .intro c;unfold mu3;dsimp only;have hbt:=K.bt (by omega);obtain ⟨G,gm,g0⟩:=K.p3 c;obtain ⟨M,h5o,hn1⟩:=W.g (.inl c);have eo:uK x=wv x.G:=ziw (.inl c);have hh:z8 s x=yt x.G:=by unfold z8;rw [zrc c,hbt,zJM]
  rw [eo] at X;obtain ⟨gh',X',G',Fx,hc',hFb,N,hN,hT⟩:=zEm hp hk X M h5o G;have so:=zap s x.G;have Fx':FX p nb (uK x) (fun _=>False) s (zy s x.G).1 gh gh':=by rw [eo];exact Fx.mono (fun v e=>by have:=e.1;omega)
  have hT':(N=[]/\([]:List Int)=[]/\(zy s x.G).1.T=s.T)\/(N=[x.G.Obj]/\([]:List Int)=[]/\(x.PC=3\/x.PC=37)/\¬(s.T.Marks|||bit x.G.Obj=s.T.Marks)/\(zy s x.G).1.T={s.T with Marks:=s.T.Marks|||bit x.G.Obj}):=by
   rcases hT with ⟨a,b⟩ | ⟨a,b,c'⟩
   .exact .inl ⟨a,rfl,b⟩
   .exact .inr ⟨a,rfl,.inl c,b,c'⟩
  split
  .rename_i o1;intro S';have n1:wv (zy s x.G).2=[]:=vA (.inl (by omega));have n2:yt (zy s x.G).2=[]:=ZM (.inl (by omega));rw [n1] at X';refine ⟨gh',by rw [v9 (by dsimp only;omega)];exact X',MX.plain (by dsimp only;omega) (fun _=>hbt) hbf ⟨fun e=>(by cases e),fun e=>?_⟩,Fx',N,[],?_,hT'.elim .inl (fun h=>.inr (.inl h))⟩
   .rcases e with e | e
    .cases e
    .exact hol.2 (.inr ⟨.inr c,e.2⟩)
   .unfold z8;rw [uS (by dsimp only;omega),zJE,zJE];rw [n2,zJE] at hN;show List.Perm (yE p (zy s x.G).1 gh'++x.Batch) (N++(yE p s gh++(x.Batch++zbU s x)));rw [hbt,zrc c,zJE,zJM];exact hN
  .rename_i o1;intro S';have o0:(zy s x.G).2.Out=0:=by have:=G'.o;omega
   refine ⟨gh',by rw [ziw (x:={x with G:=(zy s x.G).2}) (.inl c)];exact X',⟨fun _=>hbt,hbf,hol,fun _=>⟨G',so.2.2.trans gm,o0⟩,fun e=>by have e:x.PC=32:=e;omega,fun e=>by have e:x.PC=34:=e;omega,fun e=>by have e:x.PC=37:=e;omega⟩,Fx',N,[],?_,hT'.elim .inl (fun h=>.inr (.inl h))⟩;unfold z8;rw [zrc (x:={x with G:=(zy s x.G).2}) c,zJE];show List.Perm (yE p (zy s x.G).1 gh'++(x.Batch++yt (zy s x.G).2)) (N++(yE p s gh++(x.Batch++zbU s x)));rw [hbt,zrc c,zJM,zJM];exact hN
 .intro c S';unfold zi8 at S' ⊢;exact .calm X S' rfl rfl rfl (by omega) (by dsimp only [setM];omega) rfl (fun _=>K.bt (by omega)) hbf ⟨fun e=>by dsimp only [setM] at e;omega,fun e=>by dsimp only [setM] at e;omega⟩
 .intro c;unfold zfQ;dsimp only;have hbt:=K.bt (by omega);split
  .intro S';exact .calm X S' rfl rfl rfl (by omega) (by dsimp only [vJ];omega) rfl (fun _=>hbt) hbf ⟨fun e=>by dsimp only [vJ] at e;omega,fun e=>by dsimp only [vJ] at e;omega⟩
  .intro S';exact .calm X S' rfl rfl rfl (by omega) (by dsimp only;omega) rfl (fun _=>hbt) hbf ⟨fun _=>hH _ _,fun e=>by dsimp only at e;omega⟩
 .intro c;unfold zfW;dsimp only;have hbt:=K.bt (by omega);have h21:=hol.1 c;split
  .intro S';exact .calm X S' rfl rfl rfl (by omega) (by dsimp only;omega) rfl (fun _=>hbt) hbf ⟨fun e=>by dsimp only at e;omega,fun e=>by dsimp only at e;omega⟩
  .rename_i hn;intro S';have: ¬x.Old=0:=fun e=>hn (.inl e);exact .calm X S' rfl rfl rfl (by omega) (by dsimp only;omega) rfl (fun _=>hbt) hbf ⟨fun e=>by dsimp only at e;omega,fun e=>by dsimp only;omega⟩
 .intro c;unfold zfq;dsimp only;have hbt:=K.bt (by omega);have h22:=hol.2 (.inl c);split
  .intro S';exact .calm X S' rfl rfl rfl (by omega) (by dsimp only;omega) rfl (fun _=>hbt) hbf ⟨fun e=>by dsimp only at e;omega,fun e=>h22⟩
  .intro S';refine .calm X S' rfl rfl rfl (by omega) (by dsimp only;omega) rfl (fun _=>hbt) (fun v hv=>?_) ⟨fun e=>by dsimp only at e;omega,fun e=>by dsimp only at e;omega⟩;rcases zJZ.1 hv with h | h
   .exact hbf v h
   .rw [zKm.1 h];exact h22
 .intro c S';unfold zgT at S' ⊢;exact .calm X S' rfl rfl rfl (by omega) (by dsimp only [vJ];omega) rfl (fun _=>K.bt (by omega)) hbf ⟨fun e=>by dsimp only [vJ] at e;omega,fun e=>by dsimp only [vJ] at e;omega⟩
 .intro c;unfold Uo;have hbt:=K.bt (by omega);split
  .split
   .rename_i h1 h2;intro S';refine ⟨gh,by rw [v9 (by dsimp only [setM];omega)];rw [v9 (x:=x) (by omega)] at X;exact X.quiet S' rfl,MX.plain (by dsimp only [setM];omega) (fun _=>hbt) hbf ⟨fun e=>by dsimp only [setM] at e;omega,fun e=>by dsimp only [setM] at e;omega⟩,FX.quiet rfl (fun _ _ _=>rfl),[],[],?_,.inr (.inr (.inr ⟨rfl,rfl,c,h2,rfl,rfl⟩))⟩;rw [Zd rfl,zJE,zJM];unfold z8;rw [uS (by dsimp only [setM];omega),uS (x:=x) (by omega)];exact zJ2 _
   .intro S';exact .calm X S' rfl rfl rfl (by omega) (by dsimp only [vJ];omega) rfl (fun _=>hbt) hbf ⟨fun e=>by dsimp only [vJ] at e;omega,fun e=>by dsimp only [vJ] at e;omega⟩
  .intro S';exact .calm X S' rfl rfl rfl (by omega) (by dsimp only;omega) rfl (fun _=>hbt) hbf ⟨fun e=>by dsimp only at e;omega,fun e=>by dsimp only at e;omega⟩
 .intro c;unfold zeN;dsimp only;have hbt:=K.bt (by omega);split
  .intro S';refine .quiet X S' rfl rfl rfl (by rw [v9 (by dsimp only;omega),v9 (x:=x) (by omega)]) ?_ ⟨fun _=>hbt,hbf,⟨fun e=>by dsimp only at e;omega,fun e=>by dsimp only at e;omega⟩,fun e=>by dsimp only at e;omega,fun _=>⟨rfl,⟨by show (0:Int)<=0;decide,by show (0:Int)<=2;decide⟩,by show CK p s.M (zDG s.P (yc s.P) x.Bin);rw [hP];exact CK.start⟩,fun e=>by dsimp only at e;omega,fun e=>by dsimp only at e;omega⟩;unfold z8;rw [uS (by dsimp only;omega),uS (x:=x) (by omega)]
  .intro S';exact .calm X S' rfl rfl rfl (by omega) (by dsimp only;omega) rfl (fun _=>hbt) hbf ⟨fun e=>by dsimp only at e;omega,fun e=>by dsimp only at e;omega⟩
 .intro c;unfold zeZ;dsimp only;have C:=W.c32 c;obtain ⟨c1,c2,c3⟩:=K.p32 c;have hbt:=K.bt (by omega);have eo:uK x=[]:=v9 (by omega);have hh:z8 s x=[]:=by unfold z8;rw [hbt,uS (by omega)];rfl
  have nn:∀e:x.PC=21,False:=fun e=>by omega
  intro S';have S':SOk p nb {s with M:=(zt s.M x.C).1}:=S';rcases SX.popF hp X hk C.k C.h C.n c1 c2 c3 C.v S' with ⟨a,b,cc,d⟩ | ⟨y,l,a,b,cc,d,e⟩
  .rw [zc b];have hout:=zcx s.M c1 c2 (.inr C.k);by_cases o2:(zt s.M x.C).2.Out=2
   .rw [zb o2];exact .calm X S' a rfl rfl (by omega) (by dsimp only;omega) rfl (fun _=>hbt) hbf ⟨fun e=>by dsimp only at e;omega,fun e=>by dsimp only at e;omega⟩
   .rw [zc o2];have hpc':(zt s.M x.C).2.Out=0/\0<=(zt s.M x.C).2.PC/\(zt s.M x.C).2.PC<=2:=by omega
    refine .quiet X S' a rfl rfl ?_ ?_ ⟨fun _=>hbt,hbf,hol,fun e=>by have e:x.PC=3:=e;omega,fun _=>⟨hpc'.1,hpc'.2,?_⟩,fun e=>by have e:x.PC=34:=e;omega,fun e=>by have e:x.PC=37:=e;omega⟩
    .rw [eo];exact v9 (by dsimp only;omega)
    .unfold z8;rw [uS (by dsimp only;omega),uS (x:=x) (by omega)]
    .rw [show ({s with M:=(zt s.M x.C).1}:za).M=s.M from a];exact cc
  .rw [zb b];have e1:uK {x with PC:=33,Bin:=(zt s.M x.C).2.X,C:=(zt s.M x.C).2}=[y]:=by rw [<-cc];exact zdT (x:={x with PC:=33,Bin:=(zt s.M x.C).2.X,C:=(zt s.M x.C).2}) (.inl rfl)
   refine ⟨{gh with F:=l},by rw [e1];rw [eo] at d;exact d,MX.plain (by dsimp only;omega) (fun _=>hbt) hbf ⟨fun e=>by dsimp only at e;omega,fun e=>by dsimp only at e;omega⟩,e _ _,[],[],?_,.inl ⟨rfl,rfl,rfl⟩⟩;rw [hh,zJE,zJE,zJM];unfold z8;rw [zsE (x:={x with PC:=33,Bin:=(zt s.M x.C).2.X,C:=(zt s.M x.C).2}) rfl];show List.Perm (yE p s {gh with F:=l}++(x.Batch++yF s (zt s.M x.C).2.X)) _;rw [hbt,zJM,cc];have:yE p s gh=yF s y++yE p s {gh with F:=l}:=by unfold yE;rw [a];simp [zJJ]
   rw [this];exact zKs
 .intro c;unfold zjw;dsimp only;intro S';have hb:=W.b33 c;have hbt:=K.bt (by omega);have eo:uK x=[x.Bin]:=zdT (.inl c);rw [eC] at *;have e1:uK {x with Batch:=VL s x.Bin,PC:=34,C:=zcJ p (zJ p) x.Bin}=[x.Bin]:=zdT (x:={x with Batch:=VL s x.Bin,PC:=34,C:=zcJ p (zJ p) x.Bin}) (.inr rfl);have hget:∀b,1<=b->b∉uK x->(s.Bins.set x.Bin.toNat [])[b.toNat]? =s.Bins[b.toNat]? :=fun b b1 b2=>by
   rw [zKc];intro e;rw [eo] at b2;exact b2 (by rw [show b=x.Bin by omega];simp)
  refine ⟨gh,by rw [e1,<-eo];exact X.quiet S' rfl,⟨fun e=>absurd e (by show ¬(34:Int)<=33;decide),hbf,⟨fun e=>by dsimp only at e;omega,fun e=>by dsimp only at e;omega⟩,fun e=>by dsimp only at e;omega,fun e=>by dsimp only at e;omega,fun _=>⟨rfl,⟨by show (0:Int)<=0;decide,by show (0:Int)<=2;decide⟩,rfl,CK.start⟩,fun e=>by dsimp only at e;omega⟩,FX.quiet rfl hget,[],[],?_,.inl ⟨rfl,rfl,rfl⟩⟩;have hbag:yE p {s with Bins:=s.Bins.set x.Bin.toNat []} gh=yE p s gh:=by
   unfold yE;congr 1;refine wx (fun b hb=>?_);have hm:=X.L.cF.mem b hb;have hno:=(X.L.notF (x:=x.Bin) (by rw [eo];simp)).1;unfold yF;rw [show ({s with Bins:=s.Bins.set x.Bin.toNat []}:za).Bins=s.Bins.set x.Bin.toNat [] from rfl,hget b hm.1 (by rw [eo];intro e;rw [zKm.1 e] at hb;exact hno hb)]
  rw [hbag,zJE,zJM];unfold z8;rw [zsE c,uS (x:={x with Batch:=VL s x.Bin,PC:=34,C:=zcJ p (zJ p) x.Bin}) (by dsimp only;omega)];show List.Perm (yE p s gh++(VL s x.Bin++[])) _;rw [hbt,zJE,zJM,zBs]
 .intro c;unfold zfe;dsimp only;intro S';have S':SOk p nb {s with M:=(zt s.M x.C).1}:=S';have C:=W.c34 c;obtain ⟨c1,c2,c3,c4⟩:=K.p34 c;have eo:uK x=[x.Bin]:=zdT (.inr c);have hh:z8 s x=x.Batch:=by unfold z8;rw [uS (by omega),zJE]
  rw [eo] at X;rcases SX.pushE hp (o1:=[]) (o2:=R) (b:=x.Bin) X hk C.k C.h C.n c3 c1 c2 c4 C.v S' with ⟨a,b,cc,d⟩ | ⟨a,b,d⟩
  .rw [a,zc (by decide)];have hout:=zcx s.M c1 c2 (.inl C.k);have hsame:=znU s.M x.C;have hpc':0<=(zt s.M x.C).2.PC/\(zt s.M x.C).2.PC<=2:=by omega
   have e1:uK {x with C:=(zt s.M x.C).2}=[x.Bin]:=zdT (x:={x with C:=(zt s.M x.C).2}) (.inr c);refine ⟨gh,by rw [e1];exact b,⟨fun e=>by have e:x.PC<=33:=e;omega,hbf,hol,fun e=>by have e:x.PC=3:=e;omega,fun e=>by have e:x.PC=32:=e;omega,fun _=>⟨a,hpc',(hsame.2.2.2 C.k).trans c3,cc⟩,fun e=>by have e:x.PC=37:=e;omega⟩,by rw [eo];exact d _ _ (by simp),[],[],?_,.inl ⟨rfl,rfl,rfl⟩⟩;rw [Zd rfl,hh,zJE];unfold z8;rw [uS (x:={x with C:=(zt s.M x.C).2}) (by dsimp only;omega),zJE];exact zJ2 _
  .rw [a,zb rfl];refine ⟨{gh with E:=x.Bin::gh.E},by rw [v9 (by dsimp only;omega)];exact b,MX.plain (by dsimp only;omega) (fun e=>absurd e (by show ¬(35:Int)<=33;decide)) hbf ⟨fun e=>by dsimp only at e;omega,fun e=>by dsimp only at e;omega⟩,by rw [eo];exact d _ _,[],[],?_,.inl ⟨rfl,rfl,rfl⟩⟩;rw [hh,zJE];unfold z8;rw [uS (by dsimp only;omega),zJE];exact zJ2 _
 .intro c;unfold zeK;dsimp only;split
  .rename_i hb;intro S';exact .calm X S' rfl rfl rfl (by omega) (by dsimp only;omega) rfl (fun _=>hb) hbf ⟨fun e=>by dsimp only at e;omega,fun e=>by dsimp only at e;omega⟩
  .rename_i o l hb;intro S';refine .quiet X S' rfl rfl rfl (by rw [v9 (by dsimp only;omega),v9 (x:=x) (by omega)]) ?_ (MX.plain (by dsimp only;omega) (fun e=>absurd e (by show ¬(36:Int)<=33;decide)) hbf ⟨fun e=>by dsimp only at e;omega,fun e=>by dsimp only at e;omega⟩);unfold z8;rw [UW (.inl rfl),uS (x:=x) (by omega),hb,zJE];exact zKs
 .intro c;unfold zeM;dsimp only;have hv:=hH x.Obj x.Slot;have eo:uK x=[]:=v9 (by omega);split
  .rcases zdl s (wc (x.Slot+1)) with e | e<;>rw [e]<;>intro S'
   .refine .quiet X S' rfl rfl rfl (by rw [eo,v9 (by dsimp only;omega)]) ?_ (MX.plain (by dsimp only;omega) (fun e=>absurd e (by show ¬(36:Int)<=33;decide)) hbf ⟨fun e=>by dsimp only at e;omega,fun e=>by dsimp only at e;omega⟩);unfold z8;rw [UW (.inl c),UW (.inl rfl)]
   .refine .quiet X S' rfl rfl rfl (by rw [eo,v9 (by dsimp only;omega)]) ?_ (MX.plain (by dsimp only;omega) (fun e=>absurd e (by show ¬(38:Int)<=33;decide)) hbf ⟨fun e=>by dsimp only at e;omega,fun e=>by dsimp only at e;omega⟩);unfold z8;rw [UW (.inl c),UW (.inr rfl)]
  .rename_i hne;intro S';obtain ⟨g1,g2,g3,g4,g5⟩:=zwb (p:=p) (s:=s) (gh:=gh) (w:=m) (.inr rfl) (show 1<=zN s.H x.Obj x.Slot/\zN s.H x.Obj x.Slot<=64 by omega);refine .quiet X S' rfl rfl rfl ?_ ?_ ⟨fun e=>absurd e (by show ¬(37:Int)<=33;decide),hbf,⟨fun e=>by dsimp only at e;omega,fun e=>by dsimp only at e;omega⟩,fun e=>by dsimp only at e;omega,fun e=>by dsimp only at e;omega,fun e=>by dsimp only at e;omega,fun _=>⟨g1,g2,g3⟩⟩
   .rw [eo,ziw (.inr rfl)];exact g4
   .unfold z8;rw [UW (.inl c),zsz rfl];show List.Perm (x.Batch++x.Obj::yt (Ym 3 (zN s.H x.Obj x.Slot) m)) _;rw [g5]
 .intro c;unfold zaI;dsimp only;obtain ⟨G,gm,g0⟩:=K.p37 c;obtain ⟨M,h5o,hn1⟩:=W.g (.inr c);have eo:uK x=wv x.G:=ziw (.inr c);have hh:z8 s x=x.Batch++x.Obj::yt x.G:=by unfold z8;rw [zsz c]
  rw [eo] at X;obtain ⟨gh',X',G',Fx,hc',hFb,N,hN,hT⟩:=zEm hp hk X M h5o G;have so:=zap s x.G;have Fx':FX p nb (uK x) (fun _=>False) s (zy s x.G).1 gh gh':=by rw [eo];exact Fx.mono (fun v e=>by have:=e.1;omega)
  have hT':(N=[]/\([]:List Int)=[]/\(zy s x.G).1.T=s.T)\/(N=[x.G.Obj]/\([]:List Int)=[]/\(x.PC=3\/x.PC=37)/\¬(s.T.Marks|||bit x.G.Obj=s.T.Marks)/\(zy s x.G).1.T={s.T with Marks:=s.T.Marks|||bit x.G.Obj}):=by
   rcases hT with ⟨a,b⟩ | ⟨a,b,c'⟩
   .exact .inl ⟨a,rfl,b⟩
   .exact .inr ⟨a,rfl,.inr c,b,c'⟩
  have perm:∀H':List Int,H'=x.Batch++x.Obj::yt (zy s x.G).2->List.Perm (yE p (zy s x.G).1 gh'++H'++[]) (N++(yE p s gh++z8 s x)):=by
   intro H' e;rw [e,hh,zJE];have a1:List.Perm (yE p (zy s x.G).1 gh'++(x.Batch++x.Obj::yt (zy s x.G).2)) ((x.Batch++[x.Obj])++(yE p (zy s x.G).1 gh'++yt (zy s x.G).2)):=by
    rw [show x.Batch++x.Obj::yt (zy s x.G).2=(x.Batch++[x.Obj])++yt (zy s x.G).2 by simp];exact zKh _ _ _
   have a2:List.Perm (N++(yE p s gh++(x.Batch++x.Obj::yt x.G))) ((x.Batch++[x.Obj])++(N++(yE p s gh++yt x.G))):=by
    rw [show x.Batch++x.Obj::yt x.G=(x.Batch++[x.Obj])++yt x.G by simp];exact (zJP N (zKh _ _ _)).trans (zKh _ _ _)
   exact a1.trans ((zJP _ hN).trans a2.symm)
  split
  .rename_i o1;intro S';have n1:wv (zy s x.G).2=[]:=vA (.inl (by omega));have n2:yt (zy s x.G).2=[]:=ZM (.inl (by omega));rw [n1] at X';rcases zdl s x.Slot with e | e<;>rw [e]
   .refine ⟨gh',by rw [v9 (by dsimp only;omega)];exact X',MX.plain (by dsimp only;omega) (fun e=>absurd e (by show ¬(36:Int)<=33;decide)) hbf ⟨fun e=>by dsimp only at e;omega,fun e=>by dsimp only at e;omega⟩,Fx',N,[],perm _ ?_,hT'.elim .inl (fun h=>.inr (.inl h))⟩;unfold z8;rw [UW (.inl rfl),n2]
   .refine ⟨gh',by rw [v9 (by dsimp only;omega)];exact X',MX.plain (by dsimp only;omega) (fun e=>absurd e (by show ¬(38:Int)<=33;decide)) hbf ⟨fun e=>by dsimp only at e;omega,fun e=>by dsimp only at e;omega⟩,Fx',N,[],perm _ ?_,hT'.elim .inl (fun h=>.inr (.inl h))⟩;unfold z8;rw [UW (.inr rfl),n2]
  .rename_i o1;intro S';have o0:(zy s x.G).2.Out=0:=by have:=G'.o;omega
   refine ⟨gh',by rw [ziw (x:={x with G:=(zy s x.G).2}) (.inr c)];exact X',⟨fun e=>by have e:x.PC<=33:=e;omega,hbf,hol,fun e=>by have e:x.PC=3:=e;omega,fun e=>by have e:x.PC=32:=e;omega,fun e=>by have e:x.PC=34:=e;omega,fun _=>⟨G',so.2.2.trans gm,o0⟩⟩,Fx',N,[],perm _ ?_,hT'.elim .inl (fun h=>.inr (.inl h))⟩;unfold z8;rw [zsz (x:={x with G:=(zy s x.G).2}) c]
 .intro c S';unfold zgj at S' ⊢;have eo:uK x=[]:=v9 (by omega);refine ⟨gh,by rw [v9 (by dsimp only;omega)];rw [eo] at X;exact X.quiet S' rfl,MX.plain (by dsimp only;omega) (fun e=>absurd e (by show ¬(39:Int)<=33;decide)) hbf ⟨fun e=>by dsimp only at e;omega,fun e=>by dsimp only at e;omega⟩,FX.quiet rfl (fun _ _ _=>rfl),[],[x.Obj],?_,.inr (.inr (.inl ⟨rfl,rfl,c,rfl⟩))⟩;rw [Zd rfl,zJM];unfold z8;rw [UW (.inr c),uS (by dsimp only;omega),zJE,zJJ];exact zJ2 _
 .intro c S';unfold zlh at S' ⊢;exact .calm X S' rfl rfl rfl (by omega) (by dsimp only;omega) rfl (fun e=>absurd e (by show ¬(35:Int)<=33;decide)) hbf ⟨fun e=>by dsimp only at e;omega,fun e=>by dsimp only at e;omega⟩
 .intro S';exact ⟨gh,X.quiet S' rfl,K,FX.quiet rfl (fun _ _ _=>rfl),[],[],by rw [zJE];exact zJ2 _,.inl ⟨rfl,rfl,rfl⟩⟩
theorem xQ (a b:BitVec 64) (q:Int):zI (a|||b) q=true↔zI a q=true\/zI b q=true:=by
 rw [xp,xp,xp,BitVec.getLsbD_or,zKI];constructor
 .rintro ⟨h1,h2,h | h⟩
  .exact .inl ⟨h1,h2,h⟩
  .exact .inr ⟨h1,h2,h⟩
 .rintro (⟨h1,h2,h⟩ | ⟨h1,h2,h⟩)
  .exact ⟨h1,h2,.inl h⟩
  .exact ⟨h1,h2,.inr h⟩
theorem VA (h:zq) (a i v:Int):(xr h a i v).Objs.length=h.Objs.length:=by
 unfold xr;split<;>simp
theorem ZT (h:zq):(yB h).Objs.length=h.Objs.length+1:=by unfold yB;simp
theorem zv7:∀(n:Fin 10) (j:Fin 64),(xz (n.1:Int)).getLsbD j.1=decide (j.1<n.1):=by decide +kernel
theorem YY {n:Nat}(hn:n<=9) (o:Int):zI (xz (n:Int)) o=true↔1<=o/\o<=(n:Int):=by
 rw [xp];constructor
 .rintro ⟨a,b,c⟩;have:=zv7 ⟨n,by omega⟩ ⟨(o-1).toNat,by omega⟩;rw [this] at c;have:(o-1).toNat<n:=by simpa using c
  omega
 .rintro ⟨a,b⟩;have:=zv7 ⟨n,by omega⟩ ⟨(o-1).toNat,by omega⟩;refine ⟨a,by omega,?_⟩;rw [this];exact decide_eq_true (by show (o-1).toNat<n;omega)
theorem zE7 {t:zm}{o:Int}(ho:1<=o/\o<=64) (hm: ¬zI t.Marks o=true) (hb: ¬zI t.Black o=true):shade t o=({t with Marks:=t.Marks|||bit o},true):=by
 unfold shade;rw [zc ((uU ho).2 hm),zb];unfold zI at hb;simpa using hb
theorem zAr {o q:Int}(h:zI (bit o) q=true):q=o:=by
 by_cases ho:1<=o/\o<=64
 .have:=(yN 0#64 ho q).1 (by simpa using h);exact this.resolve_left (ZI q)
 .unfold bit at h;rw [zc ho] at h;exact absurd h (ZI q)
theorem WM {m:BitVec 64}{o q:Int}(h:zI (m|||bit o) q=true):zI m q=true\/q=o:=((xQ _ _ _).1 h).imp id zAr
theorem zHl (t:zm) (o:Int):yh t o=2↔zI t.Marks o=true/\zI t.Black o=true:=by
 unfold yh;cases h:zI (t.Marks&&&t.Black) o with
 | true=>simp only [if_true,true_iff];exact (ui _ _ o).1 h
 | false =>
  have hn: ¬(zI t.Marks o=true/\zI t.Black o=true):=fun e=>by rw [(ui _ _ o).2 e] at h;cases h
  simp only [zKb,if_false];constructor
  .intro e;split at e<;>omega
  .intro e;exact absurd e hn
theorem zkJ (t:zm) (o:Int):(yX t o).Marks=t.Marks/\((yX t o).Black=t.Black\/((yX t o).Black=t.Black|||bit o/\zI t.Marks o=true)):=by
 unfold yX;split
 .rename_i h;exact ⟨rfl,.inr ⟨rfl,((wY t o).1 h).1⟩⟩
 .exact ⟨rfl,.inl rfl⟩
theorem zFX (s:za) (g:zB):(zy s g).1.T=s.T\/(zy s g).1.T=(shade s.T g.Obj).1:=by
 unfold zy;split
 .exact .inl rfl
 split
 .exact .inl rfl
 split
 .exact .inl rfl
 split
 .exact .inl rfl
 split
 .exact .inl rfl
 split
 .exact .inl rfl
 split
 .exact .inl rfl
 split
 .exact .inr rfl
 .exact .inl rfl
theorem zpd (s:za) (m:Int) (x:ze) :
  ((zp s m x).1.H.Objs.length=s.H.Objs.length/\((zp s m x).1.T=s.T\/((zp s m x).1.T=(shade s.T x.G.Obj).1/\(x.PC=3\/x.PC=37))\/(zp s m x).1.T=yX s.T x.Obj) /\
   ((zp s m x).1.L=s.L\/(∃w,(zp s m x).1.L=(zbI s.L m w).1)\/(zp s m x).1.L=zcF s.L m)) \/
  ((zp s m x).1.H=yB s.H/\(zp s m x).1.T=Y2 s.T (wc (s.H.Objs.length+1))/\(zp s m x).1.L=zb4 s.L m s.P.Price/\zdY s.L m s.P.Price s.P.Limit=true/\Zz s.H s.P.Most=true):=by
 refine xG (motive:=fun r=>(r.1.H.Objs.length=s.H.Objs.length/\(r.1.T=s.T\/(r.1.T=(shade s.T x.G.Obj).1/\(x.PC=3\/x.PC=37))\/r.1.T=yX s.T x.Obj)/\(r.1.L=s.L\/(∃w,r.1.L=(zbI s.L m w).1)\/r.1.L=zcF s.L m)) \/
  (r.1.H=yB s.H/\r.1.T=Y2 s.T (wc (s.H.Objs.length+1))/\r.1.L=zb4 s.L m s.P.Price/\zdY s.L m s.P.Price s.P.Limit=true/\Zz s.H s.P.Most=true)) s m x ?_ ?_ ?_ ?_ ?_ ?_ ?_ ?_ ?_ ?_ ?_ ?_ ?_ ?_ ?_ ?_ ?_ ?_ ?_ ?_
 .intro c;exact .inl ⟨rfl,.inl rfl,.inl rfl⟩
 .intro c;exact .inl ⟨rfl,.inl rfl,.inl rfl⟩
 .intro c;exact .inl ⟨rfl,.inl rfl,.inl rfl⟩
 .intro c;unfold mu3;refine .inl ⟨by rw [vF],(zFX s x.G).imp id (fun h=>.inl ⟨h,.inl c⟩),.inl (by rw [vF])⟩
 .intro c;exact .inl ⟨rfl,.inl rfl,.inl rfl⟩
 .intro c;exact .inl ⟨rfl,.inl rfl,.inl rfl⟩
 .intro c;exact .inl ⟨rfl,.inl rfl,.inl rfl⟩
 .intro c;exact .inl ⟨rfl,.inl rfl,.inl rfl⟩
 .intro c;exact .inl ⟨VA _ _ _ _,.inl rfl,.inl rfl⟩
 .intro c;unfold Uo;split
  .split
   .rename_i h1 h2;exact .inr ⟨rfl,rfl,rfl,h1,h2⟩
   .exact .inl ⟨rfl,.inl rfl,.inl rfl⟩
  .exact .inl ⟨rfl,.inl rfl,.inl rfl⟩
 .intro c;exact .inl ⟨rfl,.inl rfl,.inr (.inl ⟨_,rfl⟩)⟩
 .intro c;exact .inl ⟨rfl,.inl rfl,.inl rfl⟩
 .intro c;exact .inl ⟨rfl,.inl rfl,.inl rfl⟩
 .intro c;exact .inl ⟨rfl,.inl rfl,.inl rfl⟩
 .intro c;exact .inl ⟨rfl,.inl rfl,.inl rfl⟩
 .intro c;exact .inl ⟨rfl,.inl rfl,.inl rfl⟩
 .intro c;unfold zaI;refine .inl ⟨by rw [vF],(zFX s x.G).imp id (fun h=>.inl ⟨h,.inr c⟩),.inl (by rw [vF])⟩
 .intro c;exact .inl ⟨rfl,.inr (.inr rfl),.inr (.inr rfl)⟩
 .intro c;exact .inl ⟨rfl,.inl rfl,.inl rfl⟩
 .exact .inl ⟨rfl,.inl rfl,.inl rfl⟩
def zqg (n:Int) (x:ze):Prop:=(∀v∈x.Buf,v<=n)/\x.Old<=n/\(x.PC=3\/x.PC=37->x.G.Obj<=n)
theorem zAn {h:zq}{n:Int}(h0:0<=n) (hv:∀l∈h.Objs,∀v∈l,v<=n) (o i:Int):zN h o i<=n:=by
 unfold zN;split
 .rw [zJD];cases hx:(zF h o)[i.toNat]? with
  | none=>exact h0
  | some v =>
   have hm:=zJG hx;unfold zF at hm;rw [zJD] at hm;cases hy:h.Objs[(o-1).toNat]? with
   | none=>rw [hy] at hm;cases hm
   | some l=>rw [hy] at hm;exact hv l (zJG hy) v hm
 .exact h0
def zq0 (Q:Int->Prop) (x:ze):Prop:=(∀v∈x.Buf,Q v)/\Q x.Old/\(x.PC=3\/x.PC=37->Q x.G.Obj)
theorem zz8 {p:zd}{nb:Nat}{s:za}{m:Int}{x:ze}(X:XOk p nb m x) {Q:Int->Prop}(h0:Q 0) (hg:∀r i,Q (zN s.H (wC x r) i)) (hg2:x.PC=36->Q (zN s.H x.Obj x.Slot)) (B:zq0 Q x):zq0 Q (zp s m x).2:=by
 obtain ⟨b1,b2,b3⟩:=B;have no:∀ {y:ze},(∀v∈y.Buf,Q v)->Q y.Old->¬(y.PC=3\/y.PC=37)->zq0 Q y:=fun h1 h2 h3=>⟨h1,h2,fun e=>absurd e h3⟩
 refine xG (motive:=fun r=>zq0 Q r.2) s m x ?_ ?_ ?_ ?_ ?_ ?_ ?_ ?_ ?_ ?_ ?_ ?_ ?_ ?_ ?_ ?_ ?_ ?_ ?_ ?_
 .intro c;unfold mu0 UU
  repeat' split
  all_goals exact no b1 b2 (by dsimp only [setM];omega)
 .intro c;unfold mu1;dsimp only;split
  .exact no b1 b2 (by have:=X.ret (.inl c);show ¬(x.Ret=3\/x.Ret=37);omega)
  .rename_i hl;refine ⟨fun v hv=>b1 v (zK8 hv),b2,fun _=>?_⟩;show Q (x.Buf.getD (x.Buf.length-1) 0);rw [zJD,zJC (show x.Buf.length-1<x.Buf.length by omega)];exact b1 _ (zJY _)
 .intro c;unfold mu2;exact no b1 b2 (by show ¬((0:Int)=3\/(0:Int)=37);decide)
 .intro c;unfold mu3;dsimp only;split
  .exact no b1 b2 (by show ¬((1:Int)=3\/(1:Int)=37);decide)
  .exact ⟨b1,b2,fun _=>by show Q (zy s x.G).2.Obj;rw [(zap s x.G).1];exact b3 (.inl c)⟩
 .intro c;unfold zi8;exact no b1 b2 (by show ¬((0:Int)=3\/(0:Int)=37);decide)
 .intro c;unfold zfQ;dsimp only;split
  .exact no b1 b2 (by show ¬((0:Int)=3\/(0:Int)=37);decide)
  .exact no b1 (hg _ _) (by show ¬((21:Int)=3\/(21:Int)=37);decide)
 .intro c;unfold zfW;dsimp only;split
  .exact no b1 h0 (by show ¬((23:Int)=3\/(23:Int)=37);decide)
  .exact no b1 b2 (by show ¬((22:Int)=3\/(22:Int)=37);decide)
 .intro c;unfold zfq;dsimp only;split
  .exact no b1 b2 (by show ¬((1:Int)=3\/(1:Int)=37);decide)
  .refine no (fun v hv=>?_) h0 (by show ¬((23:Int)=3\/(23:Int)=37);decide);rcases zJZ.1 hv with h | h
   .exact b1 v h
   .rw [zKm.1 h];exact b2
 .intro c;unfold zgT;exact no b1 b2 (by show ¬((0:Int)=3\/(0:Int)=37);decide)
 .intro c;unfold Uo;split
  .split
   .exact no b1 b2 (by show ¬((0:Int)=3\/(0:Int)=37);decide)
   .exact no b1 b2 (by show ¬((0:Int)=3\/(0:Int)=37);decide)
  .exact no b1 b2 (by show ¬((31:Int)=3\/(31:Int)=37);decide)
 .intro c;unfold zeN;dsimp only;split
  .exact no b1 b2 (by show ¬((32:Int)=3\/(32:Int)=37);decide)
  .exact no b1 b2 (by show ¬((0:Int)=3\/(0:Int)=37);decide)
 .intro c;unfold zeZ;dsimp only;split
  .exact no b1 b2 (by show ¬((33:Int)=3\/(33:Int)=37);decide)
  split
  .exact no b1 b2 (by show ¬((0:Int)=3\/(0:Int)=37);decide)
  .exact no b1 b2 (by show ¬(x.PC=3\/x.PC=37);omega)
 .intro c;unfold zjw;exact no b1 b2 (by show ¬((34:Int)=3\/(34:Int)=37);decide)
 .intro c;unfold zfe;dsimp only;split
  .exact no b1 b2 (by show ¬((35:Int)=3\/(35:Int)=37);decide)
  .exact no b1 b2 (by show ¬(x.PC=3\/x.PC=37);omega)
 .intro c;unfold zeK;dsimp only;split
  .exact no b1 b2 (by show ¬((0:Int)=3\/(0:Int)=37);decide)
  .exact no b1 b2 (by show ¬((36:Int)=3\/(36:Int)=37);decide)
 .intro c;unfold zeM;dsimp only;split
  .exact no b1 b2 (by have:=zdl s (wc (x.Slot+1));show ¬(onM s (wc (x.Slot+1))=3\/onM s (wc (x.Slot+1))=37);omega)
  .exact ⟨b1,b2,fun _=>hg2 c⟩
 .intro c;unfold zaI;dsimp only;split
  .exact no b1 b2 (by have:=zdl s x.Slot;show ¬(onM s x.Slot=3\/onM s x.Slot=37);omega)
  .exact ⟨b1,b2,fun _=>by show Q (zy s x.G).2.Obj;rw [(zap s x.G).1];exact b3 (.inr c)⟩
 .intro c;unfold zgj;exact no b1 b2 (by show ¬((39:Int)=3\/(39:Int)=37);decide)
 .intro c;unfold zlh;exact no b1 b2 (by show ¬((35:Int)=3\/(35:Int)=37);decide)
 .exact ⟨b1,b2,b3⟩
theorem zE2 {p:zd}{nb:Nat}{s:za}{m:Int}{x:ze}(X:XOk p nb m x) {n:Int}(h0:0<=n) (hv:∀l∈s.H.Objs,∀v∈l,v<=n) (B:zqg n x):zqg n (zp s m x).2 :=
 zz8 (Q:=fun v=>v<=n) X h0 (fun _ _=>zAn h0 hv _ _) (fun _=>zAn h0 hv _ _) B
theorem zoP:∀(l:List Int) (i:Nat) (v:Int),i<l.length->(l.set i v).sum=l.sum-l.getD i 0+v
 | [],i,v,h=>by simp at h
 | a::l,0,v,h=>by simp only [List.set_cons_zero,zKA,List.getD_cons_zero];omega
 | a::l,i+1,v,h=>by
  simp only [List.set_cons_succ,zKA,List.getD_cons_succ,zoP l i v (by simpa using h)];omega
theorem zyH {a d:Int}(h:0<=a/\a<=3):a*(d+1)=a*d+a:=by rw [Int.mul_add,Int.mul_one]
theorem zGH {a d:Int}(h:0<=a/\a<=3) (hd:0<=d/\d<=10):0<=a*d/\a*d<=30:=by
 refine ⟨Int.mul_nonneg h.1 hd.1,?_⟩;have:=Int.mul_le_mul h.2 hd.2 hd.1 (by decide:(0:Int)<=3);omega
def vG (p:zd) (s:za) (g:Gh):List Int:=yE p s g++(s.Ws.flatMap (zW s)++s.Ms.flatMap (z8 s))
structure FG (p:zd) (nb k:Nat) (s:za) (gh:Gh):Prop where
 E:EOk p nb s
 X:SX p nb s gh (s.Ws.flatMap wT++s.Ms.flatMap uK) k
 W:∀(i:Nat) x,s.Ws[i]? =some x->WX p s gh ((i:Int)+1) x
 M:∀(i:Nat) x,s.Ms[i]? =some x->MX p s gh x
 B:zcG (vG p s gh) s.T
 mrk:∀o,zI s.T.Marks o=true->o<=(s.H.Objs.length:Int)
 wob:∀(i:Nat) x,s.Ws[i]? =some x->x.PC=6->x.G.Obj<=(s.H.Objs.length:Int)
 buf:∀x∈s.Ms,zqg (s.H.Objs.length:Int) x
 bk:∀o,(p.H.Objs.length:Int)<o->o<=(s.H.Objs.length:Int)->zI s.T.Black o=true
 ne:∀y∈gh.F,yF s y≠[]
theorem FX.ne {p:zd}{nb k:Nat}{s s':za}{gh gh':Gh}{Y R:List Int}{O:Int->Prop}(X:SX p nb s gh (Y++R) k) (Fx:FX p nb Y O s s' gh gh') (h:∀y∈gh.F,yF s y≠[]):∀y∈gh'.F,yF s' y≠[]:=fun y hy =>
 (Fx.fb y hy).elim (fun hy=>by
  have h1:=zrF.1 (X.L.all.subset (zJV _ (zJV _ hy)));have h2:y∉Y:=fun e=>(X.L.notF (zJV _ e)).1 hy;have:=Fx.bn y h1.1 h2;unfold yF;rw [this];exact h y hy) id
theorem MX.state {p:zd}{s s':za}{gh:Gh}{x:ze}(W:MX p s gh x) (hm:s'.M=s.M) (hb:s'.Bins=s.Bins):MX p s' gh x :=
 ⟨W.bt,W.bf,W.ol,fun e=>⟨(W.p3 e).1.state hm hb,(W.p3 e).2⟩,by rw [hm];exact W.p32,by rw [hm];exact W.p34,fun e=>⟨(W.p37 e).1.state hm hb,(W.p37 e).2⟩⟩
theorem zhA {s s':za}{x:ze}(hb:s'.Bins=s.Bins):z8 s' x=z8 s x:=by
 unfold z8 zbU yF;rw [hb]
def zav (s s':za):Prop :=
 (s'.T=s.T/\s'.H.Objs.length=s.H.Objs.length) \/
 (∃o,(1<=o/\o<=(s.H.Objs.length:Int))/\¬zI s.T.Marks o=true/\s'.T={s.T with Marks:=s.T.Marks|||bit o}/\s'.H=s.H) \/
 (∃o,yh s.T o=1/\s'.T={s.T with Black:=s.T.Black|||bit o}/\s'.H=s.H) \/
 (s'.H=yB s.H/\(s.H.Objs.length:Int)<9/\s'.T=⟨s.T.Marks|||bit ((s.H.Objs.length:Int)+1),s.T.Black|||bit ((s.H.Objs.length:Int)+1)⟩)
theorem FG.tints {p:zd}{nb k:Nat}{s:za}{gh:Gh}(G:FG p nb k s gh) {s':za}(F:zav s s') :
  (∀o,zI s'.T.Marks o=true->o<=(s'.H.Objs.length:Int))/\(∀o,(p.H.Objs.length:Int)<o->o<=(s'.H.Objs.length:Int)->zI s'.T.Black o=true):=by
 rcases F with ⟨e,h⟩ | ⟨o,ho,hn,e,h⟩ | ⟨o,ho,e,h⟩ | ⟨h,hl,e⟩
 .rw [e,h];exact ⟨G.mrk,G.bk⟩
 .rw [e,h];refine ⟨fun q hq=>?_,G.bk⟩;rcases WM hq with hq | rfl
  .exact G.mrk q hq
  .exact ho.2
 .rw [e,h];exact ⟨G.mrk,fun q h1 h2=>(xQ _ _ _).2 (.inl (G.bk q h1 h2))⟩
 .rw [e,h];have hal:=ZT s.H;refine ⟨fun q hq=>?_,fun q h1 h2=>?_⟩
  .rcases WM hq with hq | rfl
   .have:=G.mrk q hq;omega
   .omega
  .dsimp only;by_cases hq:q<=(s.H.Objs.length:Int)
   .exact (xQ _ _ _).2 (.inl (G.bk q h1 hq))
   .have:q=(s.H.Objs.length:Int)+1:=by omega
    subst this;exact (yN _ (by omega) _).2 (.inr rfl)
theorem FG.det {p:zd}(hp:zD p) {nb k:Nat}{s:za}{gh:Gh}(G:FG p nb k s gh) (hd:({xL s with Epoch:=s.Epoch,Flag:=s.Flag,Done:=s.Done,Restarts:=s.Restarts,D:=s.D}:za)=s):FG p nb (k+1) (xL s) gh:=by
 have hE:=zHm hp G.E;have eM:(xL s).M=s.M:=by conv=>rhs;rw [<-hd]
 have eB:(xL s).Bins=s.Bins:=by conv=>rhs;rw [<-hd]
 have eT:(xL s).T=s.T:=by conv=>rhs;rw [<-hd]
 have eH:(xL s).H=s.H:=by conv=>rhs;rw [<-hd]
 have eW:(xL s).Ws=s.Ws:=by conv=>rhs;rw [<-hd]
 have eX:(xL s).Ms=s.Ms:=by conv=>rhs;rw [<-hd]
 refine ⟨hE,?_,?_,?_,?_,by rw [eT,eH];exact G.mrk,by rw [eW,eH];exact G.wob,by rw [eX,eH];exact G.buf,by rw [eT,eH];exact G.bk,by unfold yF;rw [eB];exact G.ne⟩
 .rw [eW,eX];exact G.X.quiet hE.S eM
 .rw [eW];exact fun i x hx=>(G.W i x hx).state eM eB
 .rw [eX];exact fun i x hx=>(G.M i x hx).state eM eB
 .have e:vG p (xL s) gh=vG p s gh:=by
   unfold vG;rw [eW,eX,Zd eB,wx (fun x _=>zhI (x:=x) eM eB),wx (fun x _=>zhA (x:=x) eB)]
  rw [e,eT];exact G.B
theorem FG.worker {p:zd}(hp:zD p) {nb k:Nat}{s:za}{gh:Gh}(hk:k<4294960000) (G:FG p nb k s gh) {w:Int}(hw:1<=w/\w<=p.Workers) (hd:s.Done=false):∃gh',FG p nb (k+1) (zK s w) gh'/\zav s (zK s w) /\
  ∃x,s.Ws[(w-1).toNat]? =some x/\∃N C,List.Perm (vG p (zK s w) gh'++C) (N++vG p s gh)/\((N=[]/\C=[]/\(zu s w x).1.T=s.T)\/(N=[x.G.Obj]/\C=[]/\x.PC=6/\¬(s.T.Marks|||bit x.G.Obj=s.T.Marks)/\(zu s w x).1.T={s.T with Marks:=s.T.Marks|||bit x.G.Obj})\/(N=[]/\C=[x.Obj]/\x.PC=8/\(zu s w x).1.T=yX s.T x.Obj)):=by
 have hE:=zz0 hp G.E w;have hwl:=G.E.wl;have e0: ¬(s.Done=true\/w<1\/(s.Ws.length:Int)<w):=by rw [hd];rintro (e | e | e)<;>first | cases e | omega
 revert hE;unfold zK;rw [zc e0];have hi:(w-1).toNat<s.Ws.length:=by omega
 have hx:=zJC hi;generalize s.Ws[(w-1).toNat]=x at hx;rw [hx];dsimp only;intro hE;obtain ⟨a,b,el,es,hab,hba⟩:=zAo hx;have ei:(((w-1).toNat:Nat):Int)+1=w:=by omega
 have hWX:=G.W _ x hx;have hWO:=G.E.W _ x hx;rw [ei] at hWX hWO;have hfr:=zkz (s:=s) hWO;have eH:(zu s w x).1.H=s.H:=by rw [hfr]
 have eMs:(zu s w x).1.Ms=s.Ms:=by rw [hfr]
 have X0:SX p nb s gh (wT x++((a++b).flatMap wT++s.Ms.flatMap uK)) k:=by
  refine G.X.perm ?_;rw [<-zJJ];refine zK7 _ ?_
  conv=>rhs;rw [el]
  exact VK.symm
 obtain ⟨gh',X',W',Fx,N,C,hN,hT⟩:=zJf hp hk hw X0 hWO hWX (fun o i=>G.E.H.get hp o i);have hoth:∀(j:Nat) y,j≠(w-1).toNat->s.Ws[j]? =some y->WX p (zu s w x).1 gh' ((j:Int)+1) y/\zW (zu s w x).1 y=zW s y:=by
  intro j y hj hy;have hjl:=(zJK.1 hy).1;exact WX.other hp (w:=(j:Int)+1) (by omega) X0 Fx (G.W j y hy) (G.E.W j y hy) (fun z hz=>zJV _ (zLj.2 ⟨y,hba j y hj hy,hz⟩)) (fun e=>hj (by omega))
 have hmut:∀(j:Nat) y,s.Ms[j]? =some y->MX p (zu s w x).1 gh' y/\z8 (zu s w x).1 y=z8 s y:=by
  intro j y hy;exact MX.other hp X0 Fx (G.M j y hy) (G.E.X j y hy) (fun z hz=>zJ7 _ (zLj.2 ⟨y,zJG hy,hz⟩))
 have hbag:List.Perm (vG p {(zu s w x).1 with Ws:=s.Ws.set (w-1).toNat (zu s w x).2} gh'++C) (N++vG p s gh):=by
  unfold vG;have q2:(s.Ws.set (w-1).toNat (zu s w x).2).flatMap (zW {(zu s w x).1 with Ws:=s.Ws.set (w-1).toNat (zu s w x).2})=(a++(zu s w x).2::b).flatMap (zW (zu s w x).1):=by
   rw [es];exact wx (fun y _=>zhI rfl rfl)
  have q3:(a++b).flatMap (zW (zu s w x).1)=(a++b).flatMap (zW s):=wx (fun y hy=>by
   obtain ⟨j,hj,hjy⟩:=hab y hy;exact (hoth j y hj hjy).2)
  have q4:(zu s w x).1.Ms.flatMap (z8 {(zu s w x).1 with Ws:=s.Ws.set (w-1).toNat (zu s w x).2})=s.Ms.flatMap (z8 s):=by
   rw [eMs];refine wx (fun y hy=>?_);obtain ⟨j,hj⟩:=zLi.1 hy;exact (zhA (s:=(zu s w x).1) rfl).trans (hmut j y hj).2
  show List.Perm (yE p (zu s w x).1 gh'++((s.Ws.set (w-1).toNat (zu s w x).2).flatMap (zW {(zu s w x).1 with Ws:=s.Ws.set (w-1).toNat (zu s w x).2})++(zu s w x).1.Ms.flatMap (z8 {(zu s w x).1 with Ws:=s.Ws.set (w-1).toNat (zu s w x).2}))++C) _;rw [q2,q4];have r1:List.Perm (yE p (zu s w x).1 gh'++((a++(zu s w x).2::b).flatMap (zW (zu s w x).1)++s.Ms.flatMap (z8 s))++C) (((a++b).flatMap (zW s)++s.Ms.flatMap (z8 s))++(yE p (zu s w x).1 gh'++zW (zu s w x).1 (zu s w x).2++C)):=by
   refine ((zJP _ (zK7 _ VK)).append_right C).trans ?_;rw [q3];generalize (a++b).flatMap (zW s)=u;generalize s.Ms.flatMap (z8 s)=v;generalize yE p (zu s w x).1 gh'=y;generalize zW (zu s w x).1 (zu s w x).2=z;have:List.Perm (y++(z++(u++v))++C) ((u++v)++(y++z++C)):=by
    generalize u++v=q;rw [zJJ,zJJ,zJJ];refine (zJP _ (zKh _ _ _)).trans ?_;exact (zKh _ _ _)
   rw [zJJ z u v];exact this
  have r2:List.Perm (N++(yE p s gh++(s.Ws.flatMap (zW s)++s.Ms.flatMap (z8 s)))) (((a++b).flatMap (zW s)++s.Ms.flatMap (z8 s))++(N++(yE p s gh++zW s x))):=by
   conv=>lhs;rw [el]
   refine (zJP _ (zJP _ (zK7 _ VK))).trans ?_;generalize (a++b).flatMap (zW s)=u;generalize s.Ms.flatMap (z8 s)=v;generalize yE p s gh=y;generalize zW s x=z;rw [zJJ z u v];generalize u++v=q;refine (zJP _ ?_).trans (zKh _ _ _);rw [<-zJJ];exact zKs
  exact r1.trans ((zJP _ hN).trans r2.symm)
 have hFM:zav s {(zu s w x).1 with Ws:=s.Ws.set (w-1).toNat (zu s w x).2}/\zcG (vG p {(zu s w x).1 with Ws:=s.Ws.set (w-1).toNat (zu s w x).2} gh') (zu s w x).1.T:=by
  rcases hT with ⟨e1,e2,t1⟩ | ⟨e1,e2,t1,t2,t3⟩ | ⟨e1,e2,t1,t2⟩
  .rw [e1,e2,zJE,zJM] at hbag;refine ⟨.inl ⟨t1,congrArg (fun h:zq=>h.Objs.length) eH⟩,⟨?_,hbag.nodup_iff.2 G.B.nd,fun o=>?_⟩⟩
   .rw [t1];exact G.B.blk
   .rw [t1,hbag.mem_iff];exact G.B.gr o
  .have ho:=((hWX.p6 t1).1).ob;rw [e1,e2,zJE] at hbag;refine ⟨.inr (.inl ⟨x.G.Obj,⟨ho.1,G.wob _ x hx t1⟩,(uU ho).1 t2,t3,eH⟩),?_⟩;rw [t3];exact G.B.more ho t2 hbag
  .rw [e1,e2,zJM] at hbag;obtain ⟨b1,b2,b3,b4⟩:=G.B.less hbag;refine ⟨.inr (.inr (.inl ⟨x.Obj,b3,?_,eH⟩)),by rw [t2];exact b1⟩;show (zu s w x).1.T=_;rw [t2];unfold yX;rw [zb b3]
 obtain ⟨hFM,hB⟩:=hFM;obtain ⟨t1,t2⟩:=G.tints hFM;refine ⟨gh',⟨hE,?_,fun j y hy=>?_,fun j y hy=>?_,hB,t1,fun j y hy h6=>?_,fun y hy=>?_,t2,fun y hy=>show yF (zu s w x).1 y≠[] from FX.ne X0 Fx G.ne y hy⟩,hFM,x,rfl,N,C,hbag,hT⟩
 .refine (X'.state hE.S rfl).perm ?_;show List.Perm ((s.Ws.set (w-1).toNat (zu s w x).2).flatMap wT++(zu s w x).1.Ms.flatMap uK) _;rw [es,eMs,<-zJJ];exact zK7 _ VK
 .have hy:(s.Ws.set (w-1).toNat (zu s w x).2)[j]? =some y:=hy;by_cases hj:j=(w-1).toNat
  .subst hj;rw [zKV hi] at hy;injection hy with hy;rw [<-hy,ei];exact W'.state rfl rfl
  .rw [zKc (fun e=>hj e.symm)] at hy;exact (hoth j y hj hy).1.state rfl rfl
 .have hy:(zu s w x).1.Ms[j]? =some y:=hy;rw [eMs] at hy;exact (hmut j y hy).1.state rfl rfl
 .have hy:(s.Ws.set (w-1).toNat (zu s w x).2)[j]? =some y:=hy;show y.G.Obj<=((zu s w x).1.H.Objs.length:Int);rw [eH];by_cases hj:j=(w-1).toNat
  .subst hj;rw [zKV hi] at hy;injection hy with hy;rw [<-hy] at h6 ⊢;rcases zBg s w x h6 with ⟨h,e⟩ | ⟨h,e⟩
   .rw [e];exact G.wob _ x hx h
   .rw [e];exact zAn (by omega) (fun l hl v hv=>((G.E.H.objs l hl).2 v hv).2) _ _
  .rw [zKc (fun e=>hj e.symm)] at hy;exact G.wob j y hy h6
 .have hy:y∈(zu s w x).1.Ms:=hy;show zqg ((zu s w x).1.H.Objs.length:Int) y;rw [eMs] at hy;rw [eH];exact G.buf y hy
theorem zpf (s:za) (m:Int) (x:ze):(zp s m x).1.H=s.H\/x.PC=23\/x.PC=30:=by
 refine xG (motive:=fun r=>r.1.H=s.H\/x.PC=23\/x.PC=30) s m x ?_ ?_ ?_ ?_ ?_ ?_ ?_ ?_ ?_ ?_ ?_ ?_ ?_ ?_ ?_ ?_ ?_ ?_ ?_ ?_
 all_goals first
  | exact fun _=>.inl rfl
  | exact fun c=>.inr (.inl c)
  | exact fun c=>.inr (.inr c)
  | (intro c;unfold mu3;exact .inl (by dsimp only;rw [vF]))
  | (intro c;unfold zaI;exact .inl (by dsimp only;rw [vF]))
  | exact .inl rfl
theorem zd5 {t:zm}{n:Int}(hn:1<=n/\n<=64) (nm: ¬zI t.Marks n=true) (nb': ¬zI t.Black n=true):Y2 t n=⟨t.Marks|||bit n,t.Black|||bit n⟩:=by
 have ht1:yh {t with Marks:=t.Marks|||bit n} n=1:=(wY _ _).2 ⟨(yN _ hn _).2 (.inr rfl),nb'⟩;unfold Y2;rw [zE7 hn nm nb'];dsimp only;rw [zb rfl];unfold yX;rw [zb ht1]
theorem zcG.fresh {B B':List Int}{t:zm}{n:Int}(hn:1<=n/\n<=64) (nm: ¬zI t.Marks n=true) (K:zcG B t) (h:List.Perm B' B):zcG B' ⟨t.Marks|||bit n,t.Black|||bit n⟩:=by
 refine ⟨fun o ho=>?_,h.nodup_iff.2 K.nd,fun o=>?_⟩
 .rcases (yN _ hn o).1 ho with h | h
  .exact (yN _ hn o).2 (.inl (K.blk o h))
  .exact (yN _ hn o).2 (.inr h)
 .rw [h.mem_iff,K.gr,wY,wY];dsimp only;rw [yN _ hn,yN _ hn];constructor
  .rintro ⟨a1,a2⟩;refine ⟨.inl a1,fun e=>e.elim a2 (fun e=>?_)⟩;rw [e] at a1;exact nm a1
  .rintro ⟨a1,a2⟩;exact ⟨a1.resolve_right (fun e=>a2 (.inr e)),fun e=>a2 (.inl e)⟩
theorem FG.mut_tint {p:zd}(hp:zD p) {nb k:Nat}{s:za}{gh:Gh}(G:FG p nb k s gh) {m:Int}{x:ze}(hMX:MX p s gh x) (hBI:zqg (s.H.Objs.length:Int) x) {l:List ze}{N C B':List Int}
  (hbag:List.Perm (B'++C) (N++vG p s gh))
  (hT:(N=[]/\C=[]/\(zp s m x).1.T=s.T)\/(N=[x.G.Obj]/\C=[]/\(x.PC=3\/x.PC=37)/\¬(s.T.Marks|||bit x.G.Obj=s.T.Marks)/\(zp s m x).1.T={s.T with Marks:=s.T.Marks|||bit x.G.Obj})\/(N=[]/\C=[x.Obj]/\x.PC=38/\(zp s m x).1.T=yX s.T x.Obj) \/
   (N=[]/\C=[]/\x.PC=30/\Zz s.H s.P.Most=true/\(zp s m x).1.H=yB s.H/\(zp s m x).1.T=Y2 s.T (wc (s.H.Objs.length+1)))) :
  zav s {(zp s m x).1 with Ms:=l}/\zcG B' (zp s m x).1.T:=by
 have hN0:=G.E.H.n;have hM0:=hp.most;have hn6:=hp.n;have nm: ¬zI s.T.Marks ((s.H.Objs.length:Int)+1)=true:=fun e=>by have:=G.mrk _ e;omega
 have nb': ¬zI s.T.Black ((s.H.Objs.length:Int)+1)=true:=fun e=>nm (G.B.blk _ e);have hw:wc ((s.H.Objs.length:Int)+1)=(s.H.Objs.length:Int)+1:=yT;rcases hT with ⟨e1,e2,t1⟩ | ⟨e1,e2,t1,t2,t3⟩ | ⟨e1,e2,t1,t2⟩ | ⟨e1,e2,t1,t2,t3,t4⟩
 .rw [e1,e2,zJE,zJM] at hbag;refine ⟨.inl ⟨t1,?_⟩,⟨?_,hbag.nodup_iff.2 G.B.nd,fun o=>?_⟩⟩
  .show (zp s m x).1.H.Objs.length=_;rcases zpd s m x with h | ⟨h1,h2,_,_,h5⟩
   .exact h.1
   .exfalso;rw [t1,hw,zd5 (by omega) nm nb'] at h2;have h3:=congrArg zm.Marks h2;exact nm (by rw [h3];exact (yN _ (by omega) _).2 (.inr rfl))
  .rw [t1];exact G.B.blk
  .rw [t1,hbag.mem_iff];exact G.B.gr o
 .have ho:1<=x.G.Obj/\x.G.Obj<=64:=by
   rcases t1 with h | h
   .exact (hMX.p3 h).1.ob
   .exact (hMX.p37 h).1.ob
  rw [e1,e2,zJE] at hbag;have eH:(zp s m x).1.H=s.H:=by
   rcases zpf s m x with h | h | h
   .exact h
   .omega
   .omega
  refine ⟨.inr (.inl ⟨x.G.Obj,⟨ho.1,hBI.2.2 t1⟩,(uU ho).1 t2,t3,eH⟩),?_⟩;rw [t3];exact G.B.more ho t2 hbag
 .rw [e1,e2,zJM] at hbag;obtain ⟨b1,b2,b3,b4⟩:=G.B.less hbag;have eH:(zp s m x).1.H=s.H:=by
   rcases zpf s m x with h | h | h
   .exact h
   .omega
   .omega
  refine ⟨.inr (.inr (.inl ⟨x.Obj,b3,?_,eH⟩)),by rw [t2];exact b1⟩;show (zp s m x).1.T=_;rw [t2];unfold yX;rw [zb b3]
 .rw [e1,e2,zJE,zJM] at hbag;have hr:(s.H.Objs.length:Int)<s.P.Most:=by
   unfold Zz at t2;simp only [zJB,decide_eq_true_eq] at t2;exact t2.1
  rw [G.E.S.P] at hr;have hTT:(zp s m x).1.T=⟨s.T.Marks|||bit ((s.H.Objs.length:Int)+1),s.T.Black|||bit ((s.H.Objs.length:Int)+1)⟩:=by
   rw [t4,hw,zd5 (by omega) nm nb']
  refine ⟨.inr (.inr (.inr ⟨t3,by omega,hTT⟩)),?_⟩;rw [hTT];exact G.B.fresh (by omega) nm hbag
theorem FG.mutator {p:zd}(hp:zD p) {nb k:Nat}{s:za}{gh:Gh}(hk:k<4294960000) (G:FG p nb k s gh) {m:Int}(hm:1<=m/\m<=p.Mutators) (hd:s.Done=false):∃gh',FG p nb (k+1) (zH s m) gh'/\zav s (zH s m) /\
  ∃x,s.Ms[(m-1).toNat]? =some x/\∃N C,List.Perm (vG p (zH s m) gh'++C) (N++vG p s gh)/\((N=[]/\C=[]/\(zp s m x).1.T=s.T)\/(N=[x.G.Obj]/\C=[]/\(x.PC=3\/x.PC=37)/\¬(s.T.Marks|||bit x.G.Obj=s.T.Marks)/\(zp s m x).1.T={s.T with Marks:=s.T.Marks|||bit x.G.Obj})\/(N=[]/\C=[x.Obj]/\x.PC=38/\(zp s m x).1.T=yX s.T x.Obj) \/
   (N=[]/\C=[]/\x.PC=30/\Zz s.H s.P.Most=true/\(zp s m x).1.H=yB s.H/\(zp s m x).1.T=Y2 s.T (wc (s.H.Objs.length+1)))):=by
 have hE:=zx8 hp G.E m;have hml:=G.E.ml;have hwl:=G.E.wl;have hN0:=G.E.H.n;have hM0:=hp.most;have hn6:=hp.n;have e0: ¬(s.Done=true\/m<1\/(s.Ms.length:Int)<m):=by rw [hd];rintro (e | e | e)<;>first | cases e | omega
 revert hE;unfold zH;rw [zc e0];have hi:(m-1).toNat<s.Ms.length:=by omega
 have hx:=zJC hi;generalize s.Ms[(m-1).toNat]=x at hx;rw [hx];dsimp only;intro hE;obtain ⟨a,b,el,es,hab,hba⟩:=zAo hx;have ei:(((m-1).toNat:Nat):Int)+1=m:=by omega
 have hMX:=G.M _ x hx;have hXO:=G.E.X _ x hx;rw [ei] at hXO;have hBI:=G.buf x (zJG hx);have hfr:=znt s m x;have eWs:(zp s m x).1.Ws=s.Ws:=by rw [hfr]
 have X0:SX p nb s gh (uK x++((a++b).flatMap uK++s.Ws.flatMap wT)) k:=by
  refine G.X.perm ?_;rw [<-zJJ];refine List.Perm.trans (zK7 _ ?_) zKs
  conv=>rhs;rw [el]
  exact VK.symm
 obtain ⟨gh',X',M',Fx,N,C,hN,hT⟩:=zJk hp hk X0 hXO hMX (zuU hp m) (fun o i=>G.E.H.get hp o i);have hoth:∀(j:Nat) y,j≠(m-1).toNat->s.Ms[j]? =some y->MX p (zp s m x).1 gh' y/\z8 (zp s m x).1 y=z8 s y:=by
  intro j y hj hy;exact MX.other hp X0 Fx (G.M j y hy) (G.E.X j y hy) (fun z hz=>zJV _ (zLj.2 ⟨y,hba j y hj hy,hz⟩))
 have hwrk:∀(j:Nat) y,s.Ws[j]? =some y->WX p (zp s m x).1 gh' ((j:Int)+1) y/\zW (zp s m x).1 y=zW s y:=by
  intro j y hy;have hjl:=(zJK.1 hy).1;exact WX.other hp (w:=(j:Int)+1) (by omega) X0 Fx (G.W j y hy) (G.E.W j y hy) (fun z hz=>zJ7 _ (zLj.2 ⟨y,zJG hy,hz⟩)) (fun e=>e)
 have hbag:List.Perm (vG p {(zp s m x).1 with Ms:=s.Ms.set (m-1).toNat (zp s m x).2} gh'++C) (N++vG p s gh):=by
  unfold vG;have q2:(s.Ms.set (m-1).toNat (zp s m x).2).flatMap (z8 {(zp s m x).1 with Ms:=s.Ms.set (m-1).toNat (zp s m x).2})=(a++(zp s m x).2::b).flatMap (z8 (zp s m x).1):=by
   rw [es];exact wx (fun y _=>zhA rfl)
  have q3:(a++b).flatMap (z8 (zp s m x).1)=(a++b).flatMap (z8 s):=wx (fun y hy=>by
   obtain ⟨j,hj,hjy⟩:=hab y hy;exact (hoth j y hj hjy).2)
  have q4:(zp s m x).1.Ws.flatMap (zW {(zp s m x).1 with Ms:=s.Ms.set (m-1).toNat (zp s m x).2})=s.Ws.flatMap (zW s):=by
   rw [eWs];refine wx (fun y hy=>?_);obtain ⟨j,hj⟩:=zLi.1 hy;exact (zhI (s:=(zp s m x).1) rfl rfl).trans (hwrk j y hj).2
  show List.Perm (yE p (zp s m x).1 gh'++((zp s m x).1.Ws.flatMap (zW {(zp s m x).1 with Ms:=s.Ms.set (m-1).toNat (zp s m x).2})++(s.Ms.set (m-1).toNat (zp s m x).2).flatMap (z8 {(zp s m x).1 with Ms:=s.Ms.set (m-1).toNat (zp s m x).2}))++C) _;rw [q2,q4];have r1:List.Perm (yE p (zp s m x).1 gh'++(s.Ws.flatMap (zW s)++(a++(zp s m x).2::b).flatMap (z8 (zp s m x).1))++C) ((s.Ws.flatMap (zW s)++(a++b).flatMap (z8 s))++(yE p (zp s m x).1 gh'++z8 (zp s m x).1 (zp s m x).2++C)):=by
   refine ((zJP _ (zJP _ VK)).append_right C).trans ?_;rw [q3];generalize (a++b).flatMap (z8 s)=u;generalize s.Ws.flatMap (zW s)=v;generalize yE p (zp s m x).1 gh'=y;generalize z8 (zp s m x).1 (zp s m x).2=z;refine ((zJP y (zKh v z u)).append_right C).trans ?_;generalize v++u=q;rw [zJJ,zJJ,zJJ];refine (zJP _ (zKh _ _ _)).trans ?_;exact (zKh _ _ _)
  have r2:List.Perm (N++(yE p s gh++(s.Ws.flatMap (zW s)++s.Ms.flatMap (z8 s)))) ((s.Ws.flatMap (zW s)++(a++b).flatMap (z8 s))++(N++(yE p s gh++z8 s x))):=by
   conv=>lhs;rw [el]
   refine (zJP _ (zJP _ (zJP _ VK))).trans ?_;generalize (a++b).flatMap (z8 s)=u;generalize s.Ws.flatMap (zW s)=v;generalize yE p s gh=y;generalize z8 s x=z;refine (zJP N (zJP y (zKh v z u))).trans ?_;generalize v++u=q;refine (zJP _ ?_).trans (zKh _ _ _);rw [<-zJJ];exact zKs
  exact r1.trans ((zJP _ hN).trans r2.symm)
 have hlen:(zp s m x).1.H.Objs.length=s.H.Objs.length\/(zp s m x).1.H=yB s.H:=by
  rcases zpd s m x with h | h
  .exact .inl h.1
  .exact .inr h.1
 have hFM:=G.mut_tint hp (m:=m) (l:=s.Ms.set (m-1).toNat (zp s m x).2) hMX hBI hbag hT;obtain ⟨hFM,hB⟩:=hFM;obtain ⟨t1,t2⟩:=G.tints hFM;have hN1:(s.H.Objs.length:Int)<=((zp s m x).1.H.Objs.length:Int):=by
  rcases hlen with h | h
  .omega
  .rw [h,ZT];omega
 have B':=zE2 (s:=s) hXO (n:=(s.H.Objs.length:Int)) (by omega) (fun l hl v hv=>((G.E.H.objs l hl).2 v hv).2) hBI;refine ⟨gh',⟨hE,?_,fun j y hy=>?_,fun j y hy=>?_,hB,t1,fun j y hy h6=>?_,fun y hy=>?_,t2,fun y hy=>show yF (zp s m x).1 y≠[] from FX.ne X0 Fx G.ne y hy⟩,hFM,x,rfl,N,C,hbag,hT⟩
 .refine (X'.state hE.S rfl).perm ?_;show List.Perm ((zp s m x).1.Ws.flatMap wT++(s.Ms.set (m-1).toNat (zp s m x).2).flatMap uK) _;rw [es,eWs,<-zJJ];exact zKs.trans (zK7 _ VK)
 .have hy:(zp s m x).1.Ws[j]? =some y:=hy;rw [eWs] at hy;exact (hwrk j y hy).1.state rfl rfl
 .have hy:(s.Ms.set (m-1).toNat (zp s m x).2)[j]? =some y:=hy;by_cases hj:j=(m-1).toNat
  .subst hj;rw [zKV hi] at hy;injection hy with hy;rw [<-hy];exact M'.state rfl rfl
  .rw [zKc (fun e=>hj e.symm)] at hy;exact (hoth j y hj hy).1.state rfl rfl
 .have hy:(zp s m x).1.Ws[j]? =some y:=hy;rw [eWs] at hy;have:=G.wob j y hy h6;show y.G.Obj<=((zp s m x).1.H.Objs.length:Int);omega
 .have up:∀ {z:ze},zqg (s.H.Objs.length:Int) z->zqg ((zp s m x).1.H.Objs.length:Int) z:=fun ⟨a,b,c⟩=>⟨fun v hv=>by have:=a v hv;omega,by omega,fun e=>by have:=c e;omega⟩
  rcases zKn (show y∈s.Ms.set (m-1).toNat (zp s m x).2 from hy) with h | rfl
  .exact up (G.buf y h)
  .exact up B'
theorem zFI {p:zd}(h:zD p):FG p (z5 p+1) 0 (xl p) (gh0 p):=by
 have G:=zIP h;have hn:=h.n;have hms:∀x∈(xl p).Ms,∃r,x=wR r:=fun x hx=>by
  obtain ⟨r,_,e⟩:=zJO.1 (show x∈p.Regs.map wR from hx);exact ⟨r,e.symm⟩
 have own:(xl p).Ms.flatMap uK=[]:=zcl (fun x hx=>by
  obtain ⟨r,rfl⟩:=hms x hx;exact v9 ⟨by show (0:Int)≠3;decide,by show (0:Int)≠33;decide,by show (0:Int)≠34;decide,by show (0:Int)≠37;decide⟩)
 have hold:(xl p).Ms.flatMap (z8 (xl p))=[]:=zcl (fun x hx=>by
  obtain ⟨r,rfl⟩:=hms x hx;unfold z8;rw [uS ⟨by show (0:Int)≠3;decide,by show (0:Int)≠33;decide,by show (0:Int)≠36;decide,by show (0:Int)≠37;decide,by show (0:Int)≠38;decide⟩];rfl)
 refine ⟨G.E,by rw [own,zJE];exact G.X,G.W,fun i x hx=>?_,?_,fun o ho=>?_,fun i x hx h6=>?_,fun x hx=>?_,fun o h1 h2=>?_,zIC h⟩
 .obtain ⟨r,rfl⟩:=hms x (zJG hx);exact MX.plain ⟨by show (0:Int)≠3;decide,by show (0:Int)≠32;decide,by show (0:Int)≠34;decide,by show (0:Int)≠37;decide⟩ (fun _=>rfl) (fun v hv=>by cases hv)
   ⟨fun e=>absurd e (by show ¬(0:Int)=21;decide),fun e=>absurd e (by show ¬((0:Int)=22\/(((0:Int)=1\/(0:Int)=3)/\(0:Int)=22));decide)⟩
 .have e:vG p (xl p) (gh0 p)=zDZ p (xl p) (gh0 p):=by unfold vG zDZ;rw [hold,zJE]
  rw [e];exact G.B
 .have ho:zI (uV p) o=true:=ho;show o<=(p.H.Objs.length:Int);refine Int.not_lt.1 fun hlt=>?_;obtain ⟨a,b,_⟩:=(xp _ _).1 ho;have b2: ¬zI (xz (p.H.Objs.length:Int)) o=true:=fun e=>by
   have:=(YY (n:=p.H.Objs.length) (by omega) o).1 e;omega
  have b3:=(ui _ _ o).2 ⟨ho,(zd2 _ (by omega)).2 b2⟩;rw [zoa h] at b3;exact ZI o b3
 .obtain ⟨j,_,e⟩:=zJO.1 (show x∈(List.range p.Workers.toNat).map (vX p) from zJG hx);rw [<-e] at h6;exact absurd h6 (by show ¬(0:Int)=6;decide)
 .obtain ⟨r,rfl⟩:=hms x hx;exact ⟨fun v hv=>(by cases hv),(by show (0:Int)<=(p.H.Objs.length:Int);omega),fun e=>absurd e (by show ¬((0:Int)=3\/(0:Int)=37);decide)⟩
 .have:o<=(p.H.Objs.length:Int):=h2;omega
theorem FG.grey {p:zd}{nb k:Nat}{s:za}{gh:Gh}(G:FG p nb k s gh) {o:Int}(h:o∈vG p s gh):yh s.T o=1:=(G.B.gr o).1 h
theorem zo4 {p:zd}{s:za}{gh:Gh}{i:Nat}{x:zk}(hx:s.Ws[i]? =some x) {o:Int}(h:o∈zW s x):o∈vG p s gh :=
 zJ7 _ (zJV _ (zLj.2 ⟨x,zJG hx,h⟩))
theorem zoW {p:zd}{s:za}{gh:Gh}{i:Nat}{x:ze}(hx:s.Ms[i]? =some x) {o:Int}(h:o∈z8 s x):o∈vG p s gh :=
 zJ7 _ (zJ7 _ (zLj.2 ⟨x,zJG hx,h⟩))
theorem zcb {l:List Int}(h:l.length<4294967296):yL l=some (ZF l,()):=by
 rw [zzb,zyr h];rfl
theorem zpM (g:zB) (h:1<=g.Obj):∃v,Zq g=some (v,())/\ze3 [v]=some (yt g,()):=by
 rw [zuY,zlj];simp only [zo];have z:ze3 [0]=some ([],()):=by rw [zzU];rfl
 unfold yt;by_cases c1:g.Out=0
 .rw [zb c1];by_cases c2:3<=g.PC
  .rw [zb c2];by_cases c3:g.PC<=7
   .rw [zb c3,zb ⟨c1,c2,c3⟩];refine ⟨g.Obj,rfl,?_⟩;rw [zzU];unfold zvc;have:decide (g.Obj=0)=false:=decide_eq_false (by omega);simp [this]
   .rw [zc c3,zc (fun e=>c3 e.2.2)];exact ⟨0,rfl,z⟩
  .rw [zc c2,zc (fun e=>c2 e.2.1)];exact ⟨0,rfl,z⟩
 .rw [zc c1,zc (fun e=>c1 e.1)];exact ⟨0,rfl,z⟩
theorem zGs {m:List (BitVec 64)}{p:zd}(hc:p.Cap<1000) (w:Int) (o:zg) {l:List Int}(hl:l.length<4000000) :
  ((xm p w).bind fun y5=>(wi m y5.1 p.Cap o).bind fun y6=>(yq (l++y6.1)).bind fun l7=>(yL l7).bind fun y8=>some (y8.1,()))=some (ZF (l++UF m (zR p w) p.Cap o),()):=by
 have hi:=zFP m (zR p w) p.Cap o;rw [za7,zJA,zCb hc,zJA,yC (by simp;omega),zJA,zcb (by simp;omega)];rfl
theorem zEw {p:zd}(h:zD p) {s:za}(hP:s.P=p) {w:Int}{t c:Nat}{l:List Int}{d:zg}(K:PK p s.M w t l c d):ziY s w d=some (Yd s.M d,()):=by
 have hc:=h.cap;rw [zuu,hP];unfold Yd;by_cases c3:d.PC=3
 .rw [decide_eq_true c3,cond_true,ya];by_cases ct:d.T=d.B-1#64
  .rw [zb ct,zc (fun e=>e.2 ct),zo,zc (show ¬d.PC=6 by omega),zc (show ¬d.PC=6 by omega)]
  .rw [zc ct,zb ⟨c3,ct⟩,za7,zJA,zo,zc ?_]
   .obtain ⟨b,e⟩:=zwV s.M (w64 ((w64 (zR p w+2))+(((d.B-1#64)%(BitVec.ofInt 64 p.Cap)).toInt))) 0#64 0#64;have ea:w64 ((w64 (zR p w+2))+(((d.B-1#64)%(BitVec.ofInt 64 p.Cap)).toInt))=Xf d (d.B-1#64):=by
     unfold Xf uA;rw [K.base,K.size,zi,xC]
    dsimp only;rw [e,ea];rfl
   .have hx:p.Cap=1\/p.Cap=2\/p.Cap=3:=by omega
    rcases hx with e | e | e<;>rw [e]<;>decide
 .rw [decide_eq_false c3,cond_false,zo,zc (show ¬(d.PC=3/\d.T≠d.B-1#64) from fun e=>c3 e.1)];by_cases c6:d.PC=6
  .rw [zb c6,zb c6]
  .rw [zc c6,zc c6]
theorem zwI {p:zd}{nb k:Nat}{s:za}{gh:Gh}(G:FG p nb k s gh) {b:Int}(h:1<=b/\b<nb):idx s.Bins b=some (yF s b)/\(yF s b).length<1000000:=by
 have hl:=G.E.S.bins;have hb:=zJC (show b.toNat<s.Bins.length by omega);have hm:=zJY (show b.toNat<s.Bins.length by omega);unfold yF;rw [vu,hb];exact ⟨rfl,G.E.small.bin _ hm⟩
theorem zBU {p:zd}(h:zD p) {nb k:Nat}{s:za}{gh:Gh}(G:FG p nb k s gh) {i:Nat}{x:zk}(hx:s.Ws[i]? =some x):zdJ s ((i:Int)+1)=some (ZF (zW s x++gh.D ((i:Int)+1)),()):=by
 have hil:=(zJK.1 hx).1;have hwl:=G.E.wl;have hwk:=h.wk;have hP:=G.E.S.P;have hcap:=h.cap;have W:=G.W i x hx;have O:=G.E.W i x hx;have hw:1<=(i:Int)+1/\(i:Int)+1<=p.Workers:=by omega
 have D:=G.X.D _ hw.1 hw.2;have hb:=G.E.small.w x (zJG hx);have e1:w64 ((i:Int)+1-1)=(i:Int):=by rw [zU];omega
 have none0:UF s.M (zR p ((i:Int)+1)) p.Cap (zg.mk 0 0 0 0 0#64 0#64 0 0)=gh.D ((i:Int)+1)\/x.PC=0:=by
  by_cases p0:x.PC=0
  .exact .inr p0
  .refine .inl (zug h hw (by have:=W.c0 p0;rw [this] at D;exact D) (fun e=>absurd e.1 (by show ¬(0:Int)=2;decide)))
 rw [zuE,zo,zi,zo,zi,e1,yZ hx,zJA,Wf (by omega),zJA,hP];generalize hwi:(i:Int)+1=w at *;unfold zW Ua;have hpc:=O.pc;have cases10:x.PC=0\/x.PC=1\/x.PC=2\/x.PC=3\/x.PC=4\/x.PC=5\/x.PC=6\/x.PC=7\/x.PC=8\/x.PC=9:=by omega
 have fin:∀ {l:List Int}(o:zg),l.length<4000000->UF s.M (zR p w) p.Cap o=gh.D w->((xm p w).bind fun y5=>(wi s.M y5.1 p.Cap o).bind fun y6=>(yq (l++y6.1)).bind fun l7=>(yL l7).bind fun y8=>some (y8.1,()))=some (ZF (l++gh.D w),()):=fun o hl e=>by
  rw [zGs (by omega) w o hl,e]
 rcases cases10 with c | c | c | c | c | c | c | c | c | c
 all_goals simp only [c,Int.reduceEq,decide_true,decide_false,cond_true,cond_false,if_true,if_false,or_true,or_false,true_or,false_or]
 .have K:=W.p0 c;have hpl:(Yd s.M x.D).length<=1:=by
   unfold Yd;split
   .simp
   .split<;>simp
  rw [zEw h hP K,zJA,yC (by simp;omega),zJA];exact fin _ (by simp;omega) (zEt h hw D K)
 .rw [zJE];exact fin _ (by omega) (none0.resolve_right (by omega))
 .rw [zJE];exact fin _ (by omega) (none0.resolve_right (by omega))
 .obtain ⟨b1,b2⟩:=zwI G (O.b3 c);rw [b1,zJA,yC (by simp;omega),zJA];exact fin _ (by simp;omega) (none0.resolve_right (by omega))
 .rw [zJE];exact fin _ (by omega) (none0.resolve_right (by omega))
 .rw [yC (by simp;omega),zJA];exact fin _ (by simp;omega) (none0.resolve_right (by omega))
 .obtain ⟨g1,g2,g3,g4⟩:=W.p6 c;have hob:=g1.ob;obtain ⟨v,v1,v2⟩:=zpM x.G hob.1;have hhl:(yt x.G).length<=1:=by unfold yt;split<;>simp
  rw [yC (by simp;omega),zJA,v1,zJA];dsimp only;rw [v2,zJA,yC (by simp;omega),zJA];have ea:x.Batch++x.Obj::yt x.G=x.Batch++[x.Obj]++yt x.G:=by simp
  rw [ea,zo];by_cases g3':x.G.PC=3
  .rw [zb g3'];have:=(g1.d3 g3' g4).2.2.kind;exact fin _ (by simp;omega) (zug h hw (by have:=W.c0 (by omega);rw [this] at D;exact D) (fun e=>by have:=e.1;omega))
  .rw [zc g3'];exact fin _ (by simp;omega) (none0.resolve_right (by omega))
 .rw [zJE];exact fin _ (by omega) (none0.resolve_right (by omega))
 .rw [yC (by simp;omega),zJA];exact fin _ (by simp;omega) (none0.resolve_right (by omega))
 .rw [zJE];exact fin _ (by omega) (none0.resolve_right (by omega))
theorem zz3 {p:zd}(h:zD p) {nb k:Nat}{s:za}{gh:Gh}(G:FG p nb k s gh) {i:Nat}{x:ze}(hx:s.Ms[i]? =some x):zcu s ((i:Int)+1)=some (ZF (z8 s x),()):=by
 have hil:=(zJK.1 hx).1;have hml:=G.E.ml;have hmt:=h.mt;have W:=G.M i x hx;have O:=G.E.X i x hx;have hb:=(G.E.small.mu x (zJG hx)).2.2;have e1:w64 ((i:Int)+1-1)=(i:Int):=by rw [zU];omega
 have hhl:(yt x.G).length<=1:=by unfold yt;split<;>simp
 rw [zs4,zo,zi,zo,zi,e1,yZ hx,zJA,Wf (by omega),zJA];unfold z8 zbU;have nog:x.PC≠3/\x.PC≠37->uH x=some (false,()):=fun e=>by rw [zfV,decide_eq_false e.1,decide_eq_false e.2];rfl
 have ysg:x.PC=3\/x.PC=37->uH x=some (true,()):=fun e=>by
  rw [zfV];by_cases c:x.PC=3
  .rw [decide_eq_true c];rfl
  .rw [decide_eq_false c,decide_eq_true (e.resolve_left c)];rfl
 by_cases c33:x.PC=33
 .obtain ⟨b1,b2⟩:=zwI G (O.b33 c33);have h36: ¬(36:Int)<=x.PC:=by omega
  rw [decide_eq_true c33,cond_true,b1,zJA,yC (by simp;omega),zJA,decide_eq_false h36,cond_false,nog (by omega),zJA,cond_false,zcb (by simp;omega),zb c33];rfl
 rw [decide_eq_false c33,cond_false,zc c33];by_cases c3:x.PC=3
 .obtain ⟨v,v1,v2⟩:=zpM x.G (W.p3 c3).1.ob.1;have h36: ¬(36:Int)<=x.PC:=by omega
  rw [decide_eq_false h36,cond_false,ysg (.inl c3),zJA,cond_true,v1,zJA];dsimp only;rw [v2,zJA,yC (by simp;omega),zJA,zcb (by simp;omega),zi,zi,zb c3];rfl
 by_cases c36:36<=x.PC/\x.PC<=38
 .rw [decide_eq_true c36.1,cond_true,decide_eq_true c36.2,cond_true,yC (by simp;omega),zJA];by_cases c37:x.PC=37
  .obtain ⟨v,v1,v2⟩:=zpM x.G (W.p37 c37).1.ob.1;rw [ysg (.inr c37),zJA,cond_true,v1,zJA];dsimp only;rw [v2,zJA,yC (by simp;omega),zJA,zcb (by simp;omega),zi,zb c37];have ea:x.Batch++x.Obj::yt x.G=x.Batch++[x.Obj]++yt x.G:=by simp
   rw [ea];rfl
  .rw [nog ⟨c3,c37⟩,zJA,cond_false,zcb (by simp;omega),zY];rfl
 .rw [zi,zi,zc c3,zJE];by_cases h36:36<=x.PC
  .have h38: ¬x.PC<=38:=fun e=>c36 ⟨h36,e⟩;rw [decide_eq_true h36,cond_true,decide_eq_false h38,cond_false,nog (by omega),zJA,cond_false,zcb (show x.Batch.length<4294967296 by omega)];rfl
  .rw [decide_eq_false h36,cond_false,nog (by omega),zJA,cond_false,zcb (show x.Batch.length<4294967296 by omega)];rfl
def owG (g:zB):Int:=if g.Out=0/\(g.PC=1\/g.PC=2) then 1 else 0
def owW (x:zk):Int:=if x.PC=9 then 1 else if x.PC=6 then owG x.G else 0
def owX (x:ze):Int:=if x.PC=39 then 1 else if x.PC=3\/x.PC=37 then owG x.G else 0
theorem zFU (g:zB):0<=owG g/\owG g<=1:=by unfold owG;split<;>decide
theorem zBk (x:zk):0<=owW x/\owW x<=1:=by
 unfold owW;split
 .decide
 split
 .exact zFU _
 .decide
theorem zAp (x:ze):0<=owX x/\owX x<=1:=by
 unfold owX;split
 .decide
 split
 .exact zFU _
 .decide
theorem YF {g:zB}(h:g.Out≠0\/(g.PC≠1/\g.PC≠2)):owG g=0:=by unfold owG;rw [zi]
theorem zv4 {g:zB}(h:g.Out=0) (h2:g.PC=1\/g.PC=2):owG g=1:=by unfold owG;rw [zb ⟨h,h2⟩]
theorem zED (t:zm) (o:Int):((shade t o).2=false/\(shade t o).1=t)\/((shade t o).2=true/\¬(t.Marks|||bit o=t.Marks)/\(shade t o).1={t with Marks:=t.Marks|||bit o}):=by
 unfold shade;split
 .exact .inl ⟨rfl,rfl⟩
 split
 .rename_i h _;exact .inr ⟨rfl,h,rfl⟩
 .exact .inl ⟨rfl,rfl⟩
theorem zyv {p:zd}{s:za}{gh:Gh}{g:zB}(G:GX p s gh g) (g0:g.Out=0) (hw:0<=s.Work/\s.Work<=4294970000) :
  ((zy s g).1.T=s.T/\(zy s g).1.Work=s.Work+owG (zy s g).2-owG g) \/
  (¬(s.T.Marks|||bit g.Obj=s.T.Marks)/\(zy s g).1.T={s.T with Marks:=s.T.Marks|||bit g.Obj}/\(zy s g).1.Work=s.Work+owG (zy s g).2-owG g+1):=by
 have hpc:=G.pc;have hmd:=G.md;unfold zy;rw [zi];by_cases c7:g.PC=7
 .rw [zb c7];unfold zdR;dsimp only;left;refine ⟨rfl,?_⟩;rw [YF (g:=g) (by omega),YF (by split<;>(dsimp only;omega))];omega
 rw [zc c7];by_cases c6:g.PC=6
 .rw [zb c6];left;refine ⟨rfl,?_⟩;rw [YF (g:=g) (by omega),YF (by show _\/((7:Int)≠1/\(7:Int)≠2);omega)];show s.Work=_;omega
 rw [zc c6];by_cases c5:g.PC=5
 .rw [zb c5];unfold znq ziX;dsimp only;left;refine ⟨rfl,?_⟩;rw [YF (g:=g) (by omega),YF (by (repeat' split)<;>(dsimp only;omega))];omega
 rw [zc c5];by_cases c4:g.PC=4
 .rw [zb c4];left;refine ⟨rfl,?_⟩;rw [YF (g:=g) (by omega),YF (by show _\/((5:Int)≠1/\(5:Int)≠2);omega)];show s.Work=_;omega
 rw [zc c4];by_cases c3:g.PC=3
 .rw [zb c3];unfold zm0 ziX;dsimp only;left;refine ⟨rfl,?_⟩;rw [YF (g:=g) (by omega),YF (by (repeat' split)<;>(dsimp only;omega))];omega
 rw [zc c3];by_cases c2:g.PC=2
 .rw [zb c2];left;refine ⟨rfl,?_⟩;rw [zv4 g0 (.inr c2),YF (by show (1:Int)≠0\/_;omega)];show wc (s.Work-1)=_;rw [yT];omega
 rw [zc c2];by_cases c1:g.PC=1
 .rw [zb c1];unfold zm6;dsimp only;rw [zv4 g0 (.inl c1)];rcases zED s.T g.Obj with ⟨a,b⟩ | ⟨a,b,c⟩
  .left;refine ⟨b,?_⟩;rw [zb a,zv4 (by dsimp only;exact g0) (.inr rfl)];omega
  .right;refine ⟨b,c,?_⟩;rw [zc (by rw [a];decide)];unfold ziX;rw [YF (by (repeat' split)<;>(dsimp only;omega))];omega
 rw [zc c1];left;refine ⟨rfl,?_⟩;rw [YF (g:=g) (by omega),zv4 (by dsimp only;exact g0) (.inl rfl)];show wc (s.Work+1)=_;rw [yT];omega
theorem zqj {t:zm}{o:Int}(h:yh t o=1):yX t o≠t:=by
 have hb:=(wY t o).1 h;have hr:=VN h;unfold yX;rw [zb h];intro e;have e:=congrArg zm.Black e;exact hb.2 (by rw [<-e];exact (yN _ hr o).2 (.inr rfl))
theorem zeQ {t:zm}{o:Int}(h: ¬(t.Marks|||bit o=t.Marks)):({t with Marks:=t.Marks|||bit o}:zm)≠t:=fun e=>h (congrArg zm.Marks e)
theorem zFy {p:zd}{nb:Nat}{s:za}{gh:Gh}{w:Int}{x:zk}(W:WX p s gh w x) (O:WOk p nb w x) (hw:0<=s.Work/\s.Work<=4294970000) (h8:x.PC=8->yh s.T x.Obj=1) {N C:List Int}
  (hT:(N=[]/\C=[]/\(zu s w x).1.T=s.T)\/(N=[x.G.Obj]/\C=[]/\x.PC=6/\¬(s.T.Marks|||bit x.G.Obj=s.T.Marks)/\(zu s w x).1.T={s.T with Marks:=s.T.Marks|||bit x.G.Obj})\/(N=[]/\C=[x.Obj]/\x.PC=8/\(zu s w x).1.T=yX s.T x.Obj)) :
  (zu s w x).1.Work=s.Work+owW (zu s w x).2-owW x+(N.length:Int)-(C.length:Int):=by
 have hpc:=O.pc;revert hT;have ob:∀y:zk,owW (UI s.P w y)=0:=fun y=>rfl;have ol:∀y:zk,owW (Z3 s.P w y)=0:=fun y=>by unfold Z3;split<;>rfl
 have quiet:∀ {t:za}{y:zk},(N=[]/\C=[]/\t.T=s.T)\/(N=[x.G.Obj]/\C=[]/\x.PC=6/\¬(s.T.Marks|||bit x.G.Obj=s.T.Marks)/\t.T={s.T with Marks:=s.T.Marks|||bit x.G.Obj})\/(N=[]/\C=[x.Obj]/\x.PC=8/\t.T=yX s.T x.Obj) ->
   x.PC≠6->x.PC≠8->t.Work=s.Work+owW y-owW x->t.Work=s.Work+owW y-owW x+(N.length:Int)-(C.length:Int):=by
  rintro t y (⟨e1,e2,_⟩ | ⟨_,_,e,_⟩ | ⟨_,_,e,_⟩) h1 h2 h
  .rw [e1,e2];simp only [zKt];omega
  .omega
  .omega
 have o0:x.PC≠9->x.PC≠6->owW x=0:=fun h1 h2=>by unfold owW;rw [zc h1,zc h2]
 unfold zu;split
 .rename_i c;intro hT;refine quiet hT (by omega) (by omega) ?_;rw [o0 (by omega) (by omega)];show s.Work=_;dsimp only;split
  .show s.Work=s.Work+0-0;omega
  split
  .rw [ol];omega
  .rw [show owW {x with D:=(z3 s.M x.D).2}=owW x from rfl,o0 (by omega) (by omega)];omega
 split
 .intro hT;refine quiet hT (by omega) (by omega) ?_;rw [o0 (by omega) (by omega)];show s.Work=_;dsimp only;split
  .rw [show ∀b c,owW {x with C:=c,Bin:=b,PC:=3}=0 from fun _ _=>rfl];omega
  split
  .rw [ob];omega
  .rw [show owW {x with C:=(zt s.M x.C).2}=owW x from rfl,o0 (by omega) (by omega)];omega
 split
 .intro hT;refine quiet hT (by omega) (by omega) ?_;rw [o0 (by omega) (by omega)];show s.Work=s.Work+0-0;omega
 split
 .intro hT;refine quiet hT (by omega) (by omega) ?_;rw [o0 (by omega) (by omega)];show s.Work=_;dsimp only;split
  .rw [show ∀c,owW {x with PC:=7,C:=c,Bin:=0}=0 from fun _=>rfl];omega
  .rw [show owW {x with C:=(zt s.M x.C).2}=owW x from rfl,o0 (by omega) (by omega)];omega
 split
 .intro hT;refine quiet hT (by omega) (by omega) ?_;rw [o0 (by omega) (by omega)];dsimp only;split
  .have:∀y,owW {x with Slot:=y,PC:=onW s y}=0:=fun y=>by
    unfold owW;rcases zlx s y with e | e<;>rw [zc (by dsimp only;omega),zc (by dsimp only;omega)]
   rw [this];omega
  .rw [show ∀y v,owW {x with Slot:=y,PC:=6,G:=Ym 1 v w}=0 from fun _ _=>rfl];omega
 split
 .rename_i c;intro hT;obtain ⟨G,gm,gw,g0⟩:=W.p6 c;have e1:owW x=owG x.G:=by unfold owW;rw [zi,zb c]
  have e2:owW (if (zy s x.G).2.Out=1 then {x with G:=(zy s x.G).2,PC:=onW s x.Slot} else {x with G:=(zy s x.G).2})=owG (zy s x.G).2:=by
   split
   .rename_i o;rw [YF (.inl (by omega))];unfold owW;rcases zlx s x.Slot with e | e<;>rw [zc (by dsimp only;omega),zc (by dsimp only;omega)]
   .unfold owW;rw [zc (by dsimp only;omega),zb c]
  dsimp only at hT ⊢;rw [e1,e2];rcases zyv G g0 hw with ⟨a,b⟩ | ⟨a,b,d⟩
  .rcases hT with ⟨n1,n2,_⟩ | ⟨_,_,_,n3,n4⟩ | ⟨_,_,e,_⟩
   .rw [n1,n2,b];simp only [zKt];omega
   .exact absurd (n4.symm.trans a) (zeQ n3)
   .omega
  .rcases hT with ⟨n1,n2,n3⟩ | ⟨n1,n2,_,n3,n4⟩ | ⟨_,_,e,_⟩
   .exact absurd (b.symm.trans n3) (zeQ a)
   .rw [n1,n2,d];simp only [zKt,zJS];omega
   .omega
 split
 .intro hT;refine quiet hT (by omega) (by omega) ?_;rw [o0 (by omega) (by omega)];dsimp only;split
  .rw [ob];omega
  .rw [show ∀o l,owW {x with PC:=5,Obj:=o,Slot:=0,Batch:=l}=0 from fun _ _=>rfl];omega
 split
 .rename_i c;intro hT;have e0:owW x=0:=o0 (by omega) (by omega);rw [e0];rcases hT with ⟨_,_,e⟩ | ⟨_,_,e,_⟩ | ⟨n1,n2,_,_⟩
  .exact absurd e (zqj (h8 c))
  .omega
  .rw [n1,n2];show s.Work=s.Work+1-0+0-1;omega
 split
 .rename_i c;intro hT;refine quiet hT (by omega) (by omega) ?_;have e1:owW x=1:=by unfold owW;rw [zb c]
  rw [e1];show wc (s.Work-1)=s.Work+0-1;rw [yT];omega
 .intro hT;omega
theorem zGo {p:zd}{nb:Nat}{s:za}{gh:Gh}{m:Int}{x:ze}(W:MX p s gh x) (O:XOk p nb m x) (hw:0<=s.Work/\s.Work<=4294970000) (h8:x.PC=38->yh s.T x.Obj=1) {N C:List Int}
  (hT:(N=[]/\C=[]/\(zp s m x).1.T=s.T)\/(N=[x.G.Obj]/\C=[]/\(x.PC=3\/x.PC=37)/\¬(s.T.Marks|||bit x.G.Obj=s.T.Marks)/\(zp s m x).1.T={s.T with Marks:=s.T.Marks|||bit x.G.Obj})\/(N=[]/\C=[x.Obj]/\x.PC=38/\(zp s m x).1.T=yX s.T x.Obj) \/
   (N=[]/\C=[]/\x.PC=30/\Zz s.H s.P.Most=true/\(zp s m x).1.H=yB s.H/\(zp s m x).1.T=Y2 s.T (wc (s.H.Objs.length+1)))) :
  (zp s m x).1.Work=s.Work+owX (zp s m x).2-owX x+(N.length:Int)-(C.length:Int):=by
 have hpc:=O.pc;have hrt:=O.ret;have calm:∀ {r:za×ze},(N=[]/\C=[]/\r.1.T=s.T)\/(N=[x.G.Obj]/\C=[]/\(x.PC=3\/x.PC=37)/\¬(s.T.Marks|||bit x.G.Obj=s.T.Marks)/\r.1.T={s.T with Marks:=s.T.Marks|||bit x.G.Obj})\/(N=[]/\C=[x.Obj]/\x.PC=38/\r.1.T=yX s.T x.Obj) \/
   (N=[]/\C=[]/\x.PC=30/\Zz s.H s.P.Most=true/\r.1.H=yB s.H/\r.1.T=Y2 s.T (wc (s.H.Objs.length+1))) ->
   x.PC≠3->x.PC≠37->x.PC≠38->r.1.Work=s.Work+owX r.2-owX x->r.1.Work=s.Work+owX r.2-owX x+(N.length:Int)-(C.length:Int):=by
  rintro r (⟨e1,e2,_⟩ | ⟨_,_,e,_⟩ | ⟨_,_,e,_⟩ | ⟨e1,e2,_⟩) h1 h2 h3 h
  .rw [e1,e2];simp only [zKt];omega
  .omega
  .omega
  .rw [e1,e2];simp only [zKt];omega
 have o0:∀ {y:ze},y.PC≠39->y.PC≠3->y.PC≠37->owX y=0:=fun h1 h2 h3=>by unfold owX;rw [zc h1,zi]
 have og:∀(y:ze) (k a b:Int),owX {y with PC:=3,G:=Ym k a b}=0:=fun y k a b=>by unfold owX;rw [zc (by dsimp only;omega),zb (.inl rfl)];exact YF (.inr ⟨by show (0:Int)≠1;decide,by show (0:Int)≠2;decide⟩)
 have gq:∀(N C:List Int) (G:GX p s gh x.G) (g0:x.G.Out=0) (hT:(N=[]/\C=[]/\(zy s x.G).1.T=s.T)\/(N=[x.G.Obj]/\C=[]/\(x.PC=3\/x.PC=37)/\¬(s.T.Marks|||bit x.G.Obj=s.T.Marks)/\(zy s x.G).1.T={s.T with Marks:=s.T.Marks|||bit x.G.Obj})),
   (zy s x.G).1.Work=s.Work+owG (zy s x.G).2-owG x.G+(N.length:Int)-(C.length:Int):=by
  intro N C G g0 hT;rcases zyv G g0 hw with ⟨a,b⟩ | ⟨a,b,d⟩
  .rcases hT with ⟨n1,n2,_⟩ | ⟨_,_,_,n3,n4⟩
   .rw [n1,n2,b];simp only [zKt];omega
   .exact absurd (n4.symm.trans a) (zeQ n3)
  .rcases hT with ⟨n1,n2,n3⟩ | ⟨n1,n2,_,n3,n4⟩
   .exact absurd (b.symm.trans n3) (zeQ a)
   .rw [n1,n2,d];simp only [zKt,zJS];omega
 revert hT;refine xG (motive:=fun r=>((N=[]/\C=[]/\r.1.T=s.T)\/(N=[x.G.Obj]/\C=[]/\(x.PC=3\/x.PC=37)/\¬(s.T.Marks|||bit x.G.Obj=s.T.Marks)/\r.1.T={s.T with Marks:=s.T.Marks|||bit x.G.Obj})\/(N=[]/\C=[x.Obj]/\x.PC=38/\r.1.T=yX s.T x.Obj) \/
   (N=[]/\C=[]/\x.PC=30/\Zz s.H s.P.Most=true/\r.1.H=yB s.H/\r.1.T=Y2 s.T (wc (s.H.Objs.length+1)))) ->
   r.1.Work=s.Work+owX r.2-owX x+(N.length:Int)-(C.length:Int)) s m x ?_ ?_ ?_ ?_ ?_ ?_ ?_ ?_ ?_ ?_ ?_ ?_ ?_ ?_ ?_ ?_ ?_ ?_ ?_ ?_
 .intro c hT;refine calm hT (by omega) (by omega) (by omega) ?_;rw [o0 (y:=x) (by omega) (by omega) (by omega)];unfold mu0 UU
  repeat' split
  all_goals (rw [o0 (by (try dsimp only [setM]);omega) (by (try dsimp only [setM]);omega) (by (try dsimp only [setM]);omega)];dsimp only;omega)
 .intro c hT;refine calm hT (by omega) (by omega) (by omega) ?_;rw [o0 (y:=x) (by omega) (by omega) (by omega)];unfold mu1;dsimp only;split
  .have:=hrt (.inl c);rw [o0 (by dsimp only;omega) (by dsimp only;omega) (by dsimp only;omega)];omega
  .have e:∀l,owX {x with PC:=3,Buf:=l,G:=Ym 2 (x.Buf.getD (x.Buf.length-1) 0) m}=0:=fun l=>og {x with Buf:=l} 2 _ m;rw [e];omega
 .intro c hT;refine calm hT (by omega) (by omega) (by omega) ?_;rw [o0 (y:=x) (by omega) (by omega) (by omega)];show s.Work=s.Work+0-0;omega
 .intro c hT;obtain ⟨G,gm,g0⟩:=W.p3 c;have e1:owX x=owG x.G:=by unfold owX;rw [zi,zb (.inl c)]
  unfold mu3 at hT ⊢;dsimp only at hT ⊢;have e2:owX (if (zy s x.G).2.Out=1 then {x with PC:=1,G:=(zy s x.G).2} else {x with G:=(zy s x.G).2})=owG (zy s x.G).2:=by
   split
   .rename_i o;rw [YF (.inl (by omega)),o0 (by dsimp only;omega) (by dsimp only;omega) (by dsimp only;omega)]
   .unfold owX;rw [zc (by dsimp only;omega),zb (.inl c)]
  rw [e1,e2];refine gq N C G g0 ?_;rcases hT with h | h | ⟨_,_,e,_⟩ | ⟨_,_,e,_⟩
  .exact .inl h
  .exact .inr h
  .omega
  .omega
 .intro c hT;refine calm hT (by omega) (by omega) (by omega) ?_;rw [o0 (y:=x) (by omega) (by omega) (by omega)];show s.Work=s.Work+0-0;omega
 .intro c hT;refine calm hT (by omega) (by omega) (by omega) ?_;rw [o0 (y:=x) (by omega) (by omega) (by omega)];unfold zfQ;dsimp only;split<;>(rw [o0 (by dsimp only [vJ];omega) (by dsimp only [vJ];omega) (by dsimp only [vJ];omega)];omega)
 .intro c hT;refine calm hT (by omega) (by omega) (by omega) ?_;rw [o0 (y:=x) (by omega) (by omega) (by omega)];unfold zfW;dsimp only;split<;>(rw [o0 (by dsimp only;omega) (by dsimp only;omega) (by dsimp only;omega)];omega)
 .intro c hT;refine calm hT (by omega) (by omega) (by omega) ?_;rw [o0 (y:=x) (by omega) (by omega) (by omega)];unfold zfq;dsimp only;split<;>(rw [o0 (by dsimp only;omega) (by dsimp only;omega) (by dsimp only;omega)];omega)
 .intro c hT;refine calm hT (by omega) (by omega) (by omega) ?_;rw [o0 (y:=x) (by omega) (by omega) (by omega)];show s.Work=s.Work+0-0;omega
 .intro c hT;refine calm hT (by omega) (by omega) (by omega) ?_;rw [o0 (y:=x) (by omega) (by omega) (by omega)];unfold Uo;split
  .split
   .show s.Work=s.Work+0-0;omega
   .show s.Work=s.Work+0-0;omega
  .show s.Work=s.Work+0-0;omega
 .intro c hT;refine calm hT (by omega) (by omega) (by omega) ?_;rw [o0 (y:=x) (by omega) (by omega) (by omega)];unfold zeN;dsimp only;split<;>(rw [o0 (by dsimp only;omega) (by dsimp only;omega) (by dsimp only;omega)];omega)
 .intro c hT;refine calm hT (by omega) (by omega) (by omega) ?_;rw [o0 (y:=x) (by omega) (by omega) (by omega)];unfold zeZ;dsimp only;split
  .rw [o0 (by dsimp only;omega) (by dsimp only;omega) (by dsimp only;omega)];omega
  split<;>(rw [o0 (by dsimp only;omega) (by dsimp only;omega) (by dsimp only;omega)];omega)
 .intro c hT;refine calm hT (by omega) (by omega) (by omega) ?_;rw [o0 (y:=x) (by omega) (by omega) (by omega)];show s.Work=s.Work+0-0;omega
 .intro c hT;refine calm hT (by omega) (by omega) (by omega) ?_;rw [o0 (y:=x) (by omega) (by omega) (by omega)];unfold zfe;dsimp only;split<;>(rw [o0 (by dsimp only;omega) (by dsimp only;omega) (by dsimp only;omega)];omega)
 .intro c hT;refine calm hT (by omega) (by omega) (by omega) ?_;rw [o0 (y:=x) (by omega) (by omega) (by omega)];unfold zeK;dsimp only;split<;>(rw [o0 (by dsimp only;omega) (by dsimp only;omega) (by dsimp only;omega)];omega)
 .intro c hT;refine calm hT (by omega) (by omega) (by omega) ?_;rw [o0 (y:=x) (by omega) (by omega) (by omega)];unfold zeM;dsimp only;split
  .have:=zdl s (wc (x.Slot+1));rw [o0 (by dsimp only;omega) (by dsimp only;omega) (by dsimp only;omega)];omega
  .have e:∀y v,owX {x with Slot:=y,PC:=37,G:=Ym 3 v m}=0:=fun y v=>by unfold owX;rw [zc (by dsimp only;omega),zb (.inr rfl)];exact YF (.inr ⟨by show (0:Int)≠1;decide,by show (0:Int)≠2;decide⟩)
   rw [e];omega
 .intro c hT;obtain ⟨G,gm,g0⟩:=W.p37 c;have e1:owX x=owG x.G:=by unfold owX;rw [zi,zb (.inr c)]
  unfold zaI at hT ⊢;dsimp only at hT ⊢;have e2:owX (if (zy s x.G).2.Out=1 then {x with G:=(zy s x.G).2,PC:=onM s x.Slot} else {x with G:=(zy s x.G).2})=owG (zy s x.G).2:=by
   split
   .rename_i o;have:=zdl s x.Slot;rw [YF (.inl (by omega)),o0 (by dsimp only;omega) (by dsimp only;omega) (by dsimp only;omega)]
   .unfold owX;rw [zc (by dsimp only;omega),zb (.inr c)]
  rw [e1,e2];refine gq N C G g0 ?_;rcases hT with h | h | ⟨_,_,e,_⟩ | ⟨_,_,e,_⟩
  .exact .inl h
  .exact .inr h
  .omega
  .omega
 .intro c hT;rw [o0 (y:=x) (by omega) (by omega) (by omega)];rcases hT with ⟨_,_,e⟩ | ⟨_,_,e,_⟩ | ⟨n1,n2,_,_⟩ | ⟨_,_,e,_⟩
  .exact absurd e (zqj (h8 c))
  .omega
  .rw [n1,n2];show s.Work=s.Work+1-0+0-1;omega
  .omega
 .intro c hT;refine calm hT (by omega) (by omega) (by omega) ?_;have e1:owX x=1:=by unfold owX;rw [zb c]
  rw [e1];show wc (s.Work-1)=s.Work+0-1;rw [yT];omega
 .intro hT;rcases hT with ⟨n1,n2,_⟩ | ⟨_,_,_,n3,n4⟩ | ⟨n1,n2,c,e⟩ | ⟨n1,n2,_⟩
  .rw [n1,n2];simp only [zKt];omega
  .exact absurd n4.symm (zeQ n3)
  .exact absurd e.symm (zqj (h8 c))
  .rw [n1,n2];simp only [zKt];omega
def zai (s:za):Int:=(s.Ws.map owW).sum+(s.Ms.map owX).sum
theorem zAz:∀ {l:List Int},(∀v∈l,0<=v)->0<=l.sum
 | [],_=>by simp
 | a::l,h=>by
  have:=zAz (l:=l) (fun v hv=>h v (zJI _ hv));have:=h a (zJW ..);rw [zKA];omega
theorem zIk (s:za):0<=zai s:=by
 have h1:0<=(s.Ws.map owW).sum:=zAz (fun v hv=>by obtain ⟨x,_,rfl⟩:=zJO.1 hv;exact (zBk x).1);have h2:0<=(s.Ms.map owX).sum:=zAz (fun v hv=>by obtain ⟨x,_,rfl⟩:=zJO.1 hv;exact (zAp x).1);unfold zai;omega
theorem zAe {α:Type}{f:α->Int}{l:List α}{i:Nat}{x:α}(h:l[i]? =some x) (y:α):((l.set i y).map f).sum=(l.map f).sum-f x+f y:=by
 have hi:=(zJK.1 h).1;rw [List.map_set,zoP _ _ _ (by simpa using hi)];rw [zJD,zJ8,h];rfl
structure EG (p:zd) (nb k:Nat) (s:za) (gh:Gh):Prop where
 G:FG p nb k s gh
 wk:s.Work=((vG p s gh).length:Int)+zai s
 le:s.Work<=2*(k:Int)+100
theorem EG.work_nn {p:zd}{nb k:Nat}{s:za}{gh:Gh}(I:EG p nb k s gh):0<=s.Work:=by
 have:=I.wk;have:=zIk s;omega
theorem zir (s:za):({xL s with Epoch:=s.Epoch,Flag:=s.Flag,Done:=s.Done,Restarts:=s.Restarts,D:=s.D}:za)=s:=by
 unfold xL
 repeat' split
 all_goals rfl
theorem FG.more {p:zd}{nb k:Nat}{s:za}{gh:Gh}(G:FG p nb k s gh):FG p nb (k+1) s gh:=⟨G.E,G.X.quiet G.E.S rfl,G.W,G.M,G.B,G.mrk,G.wob,G.buf,G.bk,G.ne⟩
theorem EG.more {p:zd}{nb k:Nat}{s:za}{gh:Gh}(I:EG p nb k s gh):EG p nb (k+1) s gh:=⟨I.G.more,I.wk,by have:=I.le;omega⟩
theorem EG.det {p:zd}(hp:zD p) {nb k:Nat}{s:za}{gh:Gh}(I:EG p nb k s gh):EG p nb (k+1) (xL s) gh/\zav s (xL s):=by
 have hd:=zir s;have eM:(xL s).M=s.M:=by conv=>rhs;rw [<-hd]
 have eB:(xL s).Bins=s.Bins:=by conv=>rhs;rw [<-hd]
 have eT:(xL s).T=s.T:=by conv=>rhs;rw [<-hd]
 have eH:(xL s).H=s.H:=by conv=>rhs;rw [<-hd]
 have eW:(xL s).Ws=s.Ws:=by conv=>rhs;rw [<-hd]
 have eX:(xL s).Ms=s.Ms:=by conv=>rhs;rw [<-hd]
 have eK:(xL s).Work=s.Work:=by conv=>rhs;rw [<-hd]
 have e:vG p (xL s) gh=vG p s gh:=by
  unfold vG;rw [eW,eX,Zd eB,wx (fun x _=>zhI (x:=x) eM eB),wx (fun x _=>zhA (x:=x) eB)]
 have e2:zai (xL s)=zai s:=by unfold zai;rw [eW,eX]
 exact ⟨⟨I.G.det hp hd,by rw [e,e2,eK];exact I.wk,by rw [eK];have:=I.le;omega⟩,.inl ⟨eT,by rw [eH]⟩⟩
theorem EG.worker {p:zd}(hp:zD p) {nb k:Nat}{s:za}{gh:Gh}(hk:k<2147480000) (I:EG p nb k s gh) {w:Int}(hw:1<=w/\w<=p.Workers) (hd:s.Done=false):∃gh',EG p nb (k+1) (zK s w) gh'/\zav s (zK s w):=by
 obtain ⟨gh',G',F,x,hx,N,C,hbag,hT⟩:=I.G.worker hp (by omega) hw hd;have hwl:=I.G.E.wl;have ei:(((w-1).toNat:Nat):Int)+1=w:=by omega
 have hWX:=I.G.W _ x hx;have hWO:=I.G.E.W _ x hx;rw [ei] at hWX hWO;have h8:x.PC=8->yh s.T x.Obj=1:=fun e=>I.G.grey (zo4 hx (by unfold zW;rw [WI (.inr e)];simp));have hnn:=I.work_nn;have hle:=I.le;have hW:=zFy hWX hWO (by omega) h8 hT;have hlen:=hbag.length_eq;rw [zJN,zJN] at hlen;have eS:zK s w={(zu s w x).1 with Ws:=s.Ws.set (w-1).toNat (zu s w x).2}:=by
  unfold zK;rw [zc (by rw [hd];rintro (e | e | e)<;>first | cases e | omega),hx]
 have eK:(zK s w).Work=(zu s w x).1.Work:=by rw [eS]
 have eX:(zK s w).Ms=s.Ms:=by rw [eS];show (zu s w x).1.Ms=_;rw [zkz hWO]
 have eW:(zK s w).Ws=s.Ws.set (w-1).toNat (zu s w x).2:=by rw [eS]
 have ho:zai (zK s w)=zai s-owW x+owW (zu s w x).2:=by
  unfold zai;rw [eX,eW,zAe hx];omega
 have hwk:=I.wk;have hN:N.length<=1:=by rcases hT with ⟨e,_⟩ | ⟨e,_⟩ | ⟨e,_⟩<;>rw [e]<;>simp
 have o1:=zBk x;have o2:=zBk (zu s w x).2;refine ⟨gh',⟨G',by rw [eK,hW,ho];omega,?_⟩,F⟩;rw [eK,hW];omega
theorem EG.mutator {p:zd}(hp:zD p) {nb k:Nat}{s:za}{gh:Gh}(hk:k<2147480000) (I:EG p nb k s gh) {m:Int}(hm:1<=m/\m<=p.Mutators) (hd:s.Done=false):∃gh',EG p nb (k+1) (zH s m) gh'/\zav s (zH s m):=by
 obtain ⟨gh',G',F,x,hx,N,C,hbag,hT⟩:=I.G.mutator hp (by omega) hm hd;have hml:=I.G.E.ml;have ei:(((m-1).toNat:Nat):Int)+1=m:=by omega
 have hMX:=I.G.M _ x hx;have hXO:=I.G.E.X _ x hx;rw [ei] at hXO;have h8:x.PC=38->yh s.T x.Obj=1:=fun e=>I.G.grey (zoW hx (by unfold z8;rw [UW (.inr e)];simp));have hnn:=I.work_nn;have hle:=I.le;have hW:=zGo (m:=m) hMX hXO (by omega) h8 hT;have hlen:=hbag.length_eq;rw [zJN,zJN] at hlen;have eS:zH s m={(zp s m x).1 with Ms:=s.Ms.set (m-1).toNat (zp s m x).2}:=by
  unfold zH;rw [zc (by rw [hd];rintro (e | e | e)<;>first | cases e | omega),hx]
 have eK:(zH s m).Work=(zp s m x).1.Work:=by rw [eS]
 have eW:(zH s m).Ws=s.Ws:=by rw [eS];show (zp s m x).1.Ws=_;rw [znt]
 have eX:(zH s m).Ms=s.Ms.set (m-1).toNat (zp s m x).2:=by rw [eS]
 have ho:zai (zH s m)=zai s-owX x+owX (zp s m x).2:=by
  unfold zai;rw [eX,eW,zAe hx];omega
 have hwk:=I.wk;have hN:N.length<=1:=by rcases hT with ⟨e,_⟩ | ⟨e,_⟩ | ⟨e,_⟩ | ⟨e,_⟩<;>rw [e]<;>simp
 have o1:=zAp x;have o2:=zAp (zp s m x).2;refine ⟨gh',⟨G',by rw [eK,hW,ho];omega,?_⟩,F⟩;rw [eK,hW];omega
theorem zh4 {s:za}(hd:s.Done=true) (j:Int):Yi s j=s:=by
 unfold Yi;split
 .unfold xL;rw [zb hd]
 split
 .unfold zK;rw [zb (.inl hd)]
 .unfold zH;rw [zb (.inl hd)]
theorem EG.next {p:zd}(hp:zD p) {nb k:Nat}{s:za}{gh:Gh}(hk:k<2147480000) (I:EG p nb k s gh) (j:Int):∃gh',EG p nb (k+1) (Yi s j) gh'/\zav s (Yi s j):=by
 cases hd:s.Done with
 | true=>rw [zh4 hd];exact ⟨gh,I.more,.inl ⟨rfl,rfl⟩⟩
 | false =>
  have hwl:=I.G.E.wl;have hml:=I.G.E.ml;unfold Yi;split
  .exact ⟨gh,I.det hp⟩
  split
  .by_cases h1:1<=j
   .exact I.worker hp hk (by omega) hd
   .have:zK s j=s:=by unfold zK;rw [zb (.inr (.inl (by omega)))]
    rw [this];exact ⟨gh,I.more,.inl ⟨rfl,rfl⟩⟩
  .by_cases h1:1<=j-(s.Ws.length:Int)/\j-(s.Ws.length:Int)<=(s.Ms.length:Int)
   .exact I.mutator hp hk (by omega) hd
   .have:zH s (j-(s.Ws.length:Int))=s:=by unfold zH;rw [zY]
    rw [this];exact ⟨gh,I.more,.inl ⟨rfl,rfl⟩⟩
theorem zut:∀(n:Nat) (l:List Int),l.Nodup->(∀o∈l,1<=o/\o<=(n:Int))->l.length<=n
 | 0,[],_,_=>zJF _
 | 0,a::l,_,h=>by have:=h a (by simp);omega
 | n+1,l,hd,h=>by
  have ih:=zut n (l.erase ((n+1:Nat):Int)) (hd.erase _) (fun o ho=>by
   have:=(hd.mem_erase_iff).1 ho;have h2:=h o this.2;have h3:=this.1;omega)
  rw [List.length_erase] at ih;split at ih<;>omega
theorem zCu {p:zd}(h:zD p) {nb k:Nat}{s:za}{gh:Gh}{own:List Int}(X:SX p nb s gh own k) (hnb:nb<=50) {N:Int}(hN:(nb:Int)<=N) (hN2:N<1000):zk8 s.M (yc p) (zJ p) N=some (gh.F,()):=by
 have hF:=ZR h;have hE:=wE h;have hl:gh.F.length<nb\/gh.F.length=0:=by
  have:=X.L.all.length_eq;simp [zp4] at this;omega
 rw [zvR,zj9,zJA,ze1,zJA];obtain ⟨o,e,ho⟩:=wS (f:=ze8) (fun a=>∃x pre rest,gh.F=pre++rest/\a=(s.M,zJ p,N,x,pre,())/\Chn s.M (zJ p) nb x rest) (fun a=>gh.F.length-a.2.2.2.2.1.length) (fun o=>o= .brk (gh.F,())) (by
  rintro _ ⟨x,pre,rest,e,rfl,c⟩;rw [zrZ,ya];cases rest with
  | nil =>
   have hx:x=0:=c;rw [zb hx];exact ⟨_,rfl,by rw [e,zJE]⟩
  | cons y l =>
   obtain ⟨c1,c2,c3,c4⟩:=c;have hlen:gh.F.length=pre.length+(l.length+1):=by rw [e,zJN,zJS]
   rw [zi,zo,zb (show (pre.length:Int)<(bif decide ((1000:Int)<N) then 1000 else N) by rw [zo,zi];omega),yC (by simp;omega),zJA,zU,zj9,zJA];refine ⟨_,rfl,⟨_,pre++[x],l,by rw [e,c1];simp,rfl,?_⟩,?_⟩
   .rw [c1];exact c4
   .show gh.F.length-(pre++[x]).length<gh.F.length-pre.length;rw [zJN,zLr];omega) (s.M,zJ p,N,yr (ld s.M (yc p)),([]:List Int),()) ⟨_,[],gh.F,rfl,rfl,X.L.cF⟩ (by show gh.F.length-0<18446744073709551616;omega)
 subst ho;exact congrArg (fun o=>Option.bind o _) e
theorem zyF {α β:Type}(f:α->List β):∀(l:List α) (a:List β),l.foldl (fun r x=>r++f x) a=a++l.flatMap f
 | [],a=>by simp
 | x::l,a=>by rw [zKq,zyF f l,zKr,zJJ]
theorem zDo {p:zd}(h:zD p) {k:Nat}{s:za}{gh:Gh}(G:FG p (z5 p+1) k s gh):zb8 s=some (ZF (gh.F.flatMap (yF s)),())/\(gh.F.flatMap (yF s)).length<=9:=by
 have hP:=G.E.S.P;have hbl:=G.E.S.bins;have hbp:=zdW h;have hN:=G.E.H.n;have hn:=h.n;have hmo:=h.most;have hl9:(gh.F.flatMap (yF s)).length<=9:=by
  have hs:(gh.F.flatMap (yF s)).Sublist (vG p s gh):=(List.sublist_append_left _ _).trans (List.sublist_append_left _ _);have:=zut s.H.Objs.length _ (G.B.nd.sublist hs) (fun o ho=>by
   have ho:=hs.subset ho;exact ⟨(VN ((G.B.gr o).1 ho)).1,G.mrk o ((wY _ _).1 ((G.B.gr o).1 ho)).1⟩)
  omega
 refine ⟨?_,hl9⟩;have hF:gh.F.length<1000:=by
  have:=G.X.L.all.length_eq;simp [zp4] at this;omega
 have hnode:∀y∈gh.F,1<=y/\y<((z5 p+1:Nat):Int):=fun y hy=>zrF.1 (G.X.L.all.subset (zJV _ (zJV _ hy)));rw [zv2,zcq,zJA,zar,zJA,hP];dsimp only;rw [zCu h G.X (by omega) (by omega) (by omega),zJA];dsimp only;obtain ⟨e,_⟩:=ZO (f:=VS) (fun j r=>((gh.F.length:Int),j,s,r,gh.F,())) (fun r=>(r,())) gh.F (by omega) (fun r y=>r++yF s y) (fun i r=>r=(gh.F.take i).flatMap (yF s)) (s:=[]) rfl
  (fun i r y hy hi hr=>by
   have hm:=zJG hy;obtain ⟨b1,b2⟩:=zwI G (hnode y hm);have hsub:r.length+(yF s y).length<=9:=by
    have h1:r++yF s y=(gh.F.take (i+1)).flatMap (yF s):=by rw [hr,zKU,hy];simp
    have h2:((gh.F.take (i+1)).flatMap (yF s)).Sublist (gh.F.flatMap (yF s)):=by
     conv=>rhs;rw [<-zLe (i+1) gh.F,zKZ]
     exact List.sublist_append_left _ _
    have h3:=h2.length_le;rw [<-zJN,h1];omega
   have hb2:=(hnode y hm).2;refine ⟨by rw [hr,zKU,hy];simp,?_⟩;show VS ((gh.F.length:Int),(i:Int),s,r,gh.F,())=_;rw [ziJ,zo,zY,ve,zJA,zKi,hy,zJA,zo,zY,b1,zJA,yC (by simp;omega),zJA,yH])
  (fun r hr=>by
   show VS ((gh.F.length:Int),(gh.F.length:Int),s,r,gh.F,())=_;rw [ziJ,zo,zi])
 rw [zyF,zJM] at e;rw [e,zJA];dsimp only;rw [zcb (by omega)];rfl
theorem zCJ {p:zd}(h:zD p) {nb k:Nat}{s:za}{gh:Gh}(G:FG p nb k s gh):∀(n i:Nat),i+n=s.Ws.length->zxI s n (i:Int)=some ((List.range' i n).map fun j:Nat=>(s.Ws[j]?).elim [] fun x=>ZF (zW s x++gh.D ((j:Int)+1)))
 | 0,i,_=>rfl
 | n+1,i,hi=>by
  have hx:=zJC (show i<s.Ws.length by omega);have ih:=zCJ h G n (i+1) (by omega);rw [show ((i+1:Nat):Int)=(i:Int)+1 by omega] at ih;rw [zxI,zBU h G hx,zJA,ih,zJA,zLc,zKw,hx];rfl
theorem zDd {p:zd}(h:zD p) {nb k:Nat}{s:za}{gh:Gh}(G:FG p nb k s gh):∀(n i:Nat),i+n=s.Ms.length->zw1 s n (i:Int)=some ((List.range' i n).map fun j:Nat=>(s.Ms[j]?).elim [] fun x=>ZF (z8 s x))
 | 0,i,_=>rfl
 | n+1,i,hi=>by
  have hx:=zJC (show i<s.Ms.length by omega);have ih:=zDd h G n (i+1) (by omega);rw [show ((i+1:Nat):Int)=(i:Int)+1 by omega] at ih;rw [zw1,zz3 h G hx,zJA,ih,zJA,zLc,zKw,hx];rfl
theorem zF1 {a b:List Int}(ha:a.length<1000000) (hb:b.length<1000000):Xd [a,b]=some (a++b,()):=by
 rw [ze4];obtain ⟨e,_⟩:=ZO (f:=xO) (fun j (r:Int)=>([a,b],r,[a,b],2,j,())) (fun r=>([a,b],r,())) [a,b] (show 2<1000000 by decide) (fun r x=>r+(x.length:Int)) (fun i r=>0<=r/\r<=(i:Int)*1000000) (s:=0) ⟨by omega,by omega⟩
  (fun i r x hx hi hr=>by
   have hi:i<2:=hi;have hxl:x.length<1000000:=by
    rcases zJT.1 (zJG hx) with rfl | hx
    .exact ha
    .rw [zKm.1 hx];exact hb
   refine ⟨⟨by omega,by omega⟩,?_⟩;show xO ([a,b],r,[a,b],2,(i:Int),())=_;rw [Wr,zo,zY,yZ hx,zJA,zU (a:=r+(x.length:Int)) (by omega) (by omega),zo,zi,yH])
  (fun r hr=>by
   show xO ([a,b],r,[a,b],2,2,())=_;rw [Wr];rfl)
 have e:zX xO ([a,b],0,[a,b],(([a,b]:List (List Int)).length:Int),0,())=some (.brk ([a,b],0+(a.length:Int)+(b.length:Int),())):=e;rw [e,zJA];dsimp only;have hg:zDU (0+(a.length:Int)+(b.length:Int))=some ([],()):=by
  rw [zGL];unfold zvo;rw [decide_eq_true (by omega:(0:Int)<=0+(a.length:Int)+(b.length:Int)),decide_eq_true (by omega:0+(a.length:Int)+(b.length:Int)<4294967296)];rfl
 rw [hg,zJA];obtain ⟨e,_⟩:=ZO (f:=xK) (fun j (r:List Int)=>([a,b],2,j,r,())) (fun r=>(r,())) [a,b] (show 2<1000000 by decide) (fun r x=>r++x) (fun i r=>r.length<=i*1000000) (s:=[]) (by simp)
  (fun i r x hx hi hr=>by
   have hi:i<2:=hi;have hxl:x.length<1000000:=by
    rcases zJT.1 (zJG hx) with rfl | hx
    .exact ha
    .rw [zKm.1 hx];exact hb
   refine ⟨by rw [zJN];omega,?_⟩;show xK ([a,b],2,(i:Int),r,())=_;rw [XW,zo,zY,yZ hx,zJA,yC (by simp;omega),zJA,yH])
  (fun r hr=>by
   show xK ([a,b],2,2,r,())=_;rw [XW];rfl)
 have e:zX xK ([a,b],(([a,b]:List (List Int)).length:Int),0,([]:List Int),())=some (.brk ([]++a++b,())):=e;rw [e];rfl
theorem zHS {a b:List Int}(ha:a.length<1000000) (hb:b.length<1000000):zrI a b=some (ZF (a++b),()):=by
 rw [zAv,zF1 ha hb,zJA,zyr (by simp;omega)];rfl
theorem zyd:∀(ys:List (List Int)) (a:List Int),(a++ys.flatten).length<1000000->Zw zco ys (ZF a,())=some (ZF (a++ys.flatten),())
 | [],a,_=>by rw [Zw];simp
 | y::ys,a,hl=>by
  rw [List.flatten_cons,<-zJJ] at hl ⊢;have hl2:=hl;rw [zJN,zJN] at hl2;rw [Zw,zs5,zHS (by rw [zGr];omega) (by omega),zJA,zJA];dsimp only;rw [zG4];exact zyd ys (a++y) hl
theorem zys {α:Type}{f:α->List Int}(l:List α):List.Perm ((l.map fun x=>ZF (f x)).flatten) (l.flatMap f):=by
 induction l with
 | nil=>exact zJ2 _
 | cons a l ih =>
  rw [zKw,List.flatten_cons,zKr];exact (VP _).append ih
theorem zGM {p:zd}(h:zD p) {k:Nat}{s:za}{gh:Gh}(G:FG p (z5 p+1) k s gh):∃ys,zvC s=some ys/\List.Perm ys.flatten (vG p s gh):=by
 have hwl:=G.E.wl;have hwk:=h.wk;have hml:=G.E.ml;have hmt:=h.mt;refine ⟨_,by
  unfold zvC;rw [decide_eq_true (show s.Ws.length<1000000 by omega),decide_eq_true (show s.Ms.length<1000000 by omega),(zDo h G).1,Bool.and_self,cond_true,zJA,show (0:Int)=((0:Nat):Int) from rfl,zCJ h G s.Ws.length 0 (by omega),zJA,zDd h G s.Ms.length 0 (by omega),zJA],?_⟩
 have eW:((List.range' 0 s.Ws.length).map fun j:Nat=>(s.Ws[j]?).elim [] fun x=>ZF (zW s x++gh.D ((j:Int)+1)))=(List.range s.Ws.length).map fun j:Nat=>ZF ((s.Ws[j]?).elim [] fun x=>zW s x++gh.D ((j:Int)+1)):=by
  rw [<-zK1];refine zLd (fun j hj=>?_);rw [zJC (zJ1.1 hj)];rfl
 have eM:((List.range' 0 s.Ms.length).map fun j:Nat=>(s.Ms[j]?).elim [] fun x=>ZF (z8 s x))=(List.range s.Ms.length).map fun j:Nat=>ZF ((s.Ms[j]?).elim [] (z8 s)):=by
  rw [<-zK1];refine zLd (fun j hj=>?_);rw [zJC (zJ1.1 hj)];rfl
 dsimp only;rw [eW,eM,List.flatten_cons,List.flatten_append];refine ((VP _).append ((zys _).append (zys _))).trans ?_;rw [zu5 (f:=z8 s) s.Ms];have eW2:(List.range s.Ws.length).flatMap (fun j:Nat=>(s.Ws[j]?).elim [] fun x=>zW s x++gh.D ((j:Int)+1))=(List.range s.Ws.length).flatMap (fun j:Nat=>(s.Ws[j]?).elim [] (zW s)++gh.D ((j:Int)+1)) :=
  wx (fun j hj=>by rw [zJC (zJ1.1 hj)];rfl)
 rw [eW2];unfold vG yE;have en:p.Workers.toNat=s.Ws.length:=by omega
 rw [en,zJJ];refine zJP _ ?_;rw [<-zJJ];refine zK7 _ ?_;refine (zyb (List.range s.Ws.length) (f:=fun i:Nat=>(s.Ws[i]?).elim [] (zW s)) (g:=fun i:Nat=>gh.D ((i:Int)+1))).trans ?_;rw [zu5 (f:=zW s) s.Ws];exact zKs
theorem FG.bag9 {p:zd}(h:zD p) {nb k:Nat}{s:za}{gh:Gh}(G:FG p nb k s gh):(vG p s gh).length<=9/\∀o∈vG p s gh,1<=o/\o<=9:=by
 have hN:=G.E.H.n;have hn:=h.n;have hmo:=h.most;have hr:∀o∈vG p s gh,1<=o/\o<=(s.H.Objs.length:Int):=fun o ho=>⟨(VN ((G.B.gr o).1 ho)).1,G.mrk o ((wY _ _).1 ((G.B.gr o).1 ho)).1⟩
 have:=zut s.H.Objs.length _ G.B.nd hr;exact ⟨by omega,fun o ho=>by have:=hr o ho;omega⟩
theorem zFC {p:zd}(h:zD p) {k:Nat}{s:za}{gh:Gh}(G:FG p (z5 p+1) k s gh):zds s=some (ZF (vG p s gh),()):=by
 obtain ⟨ys,e,hp⟩:=zGM h G;have hl:=(G.bag9 h).1;rw [zxJ,zy5,zJA];have ej:zr6 s.P.Workers s.P.Mutators s.P.Cap s.P.Buf s.P.Bin s.P.Most s.P.Price s.P.Limit s.P.H.Slots s.P.H.Objs s.P.Roots s.P.Regs s.P.Progs s.P.Picks s.H.Slots s.H.Objs s.M s.Bins s.T.Marks s.T.Black s.Work s.Epoch s.Flag s.Done s.Restarts s.Acks s.L.Scanned s.L.Spent s.L.Pool s.L.Bal s.Ws s.Ms s.D.PC s.D.I=some ys:=e;dsimp only;rw [ej,zJA];have:=zyd ys [] (by rw [zJM,hp.length_eq];omega);rw [zJM] at this;have this:Zw zco ys (([]:List Int),())=some (ZF ys.flatten,()):=this;rw [this,zC8 hp];rfl
def Zh (s:za):List zB:=(s.Ws.filter (fun x=>decide (x.PC=6))).map (·.G)++(s.Ms.filter (fun x=>decide (x.PC=3\/x.PC=37))).map (·.G)
theorem zpO {α β:Type}(c:α->Bool) (f:α->β):∀(l:List α) (a:List β),l.foldl (fun r x=>bif c x then r++[f x] else r) a=a++(l.filter c).map f
 | [],a=>by simp
 | x::l,a=>by
  rw [zKq,zpO c f l,List.filter_cons];cases c x<;>simp
theorem zDW (x:ze):uH x=some (decide (x.PC=3\/x.PC=37),()):=by
 rw [zfV];by_cases c:x.PC=3
 .rw [decide_eq_true c,decide_eq_true (show x.PC=3\/x.PC=37 from .inl c)];rfl
 .rw [decide_eq_false c];by_cases c2:x.PC=37
  .rw [decide_eq_true c2,decide_eq_true (show x.PC=3\/x.PC=37 from .inr c2)];rfl
  .rw [decide_eq_false c2,decide_eq_false (show ¬(x.PC=3\/x.PC=37) from fun e=>e.elim c c2)];rfl
theorem zqA {s:za}(h1:s.Ws.length<=100) (h2:s.Ms.length<=100):zbq s=some (Zh s,()):=by
 rw [zq1];obtain ⟨e,_⟩:=ZO (f:=Y1) (fun j r=>(s.Ws,(s.Ws.length:Int),j,s,r,())) (fun r=>(s,r,())) s.Ws (zLh h1 (by decide)) (fun r x=>bif decide (x.PC=6) then r++[x.G] else r) (fun i r=>r.length<=i) (s:=[]) (by simp)
  (fun i r x hx hi hr=>by
   refine ⟨?_,?_⟩
   .cases decide (x.PC=6)
    .show r.length<=_;omega
    .show (r++[x.G]).length<=_;simp;omega
   show Y1 (s.Ws,(s.Ws.length:Int),(i:Int),s,r,())=_;rw [zed,zo,zY,yZ hx,zJA,yC (by simp;omega),zJA,yH];cases decide (x.PC=6)<;>rfl)
  (fun r hr=>by
   show Y1 (s.Ws,(s.Ws.length:Int),(s.Ws.length:Int),s,r,())=_;rw [zed,zo,zi])
 rw [zpO,zJM] at e;rw [e,zJA];dsimp only;have hfl:((s.Ws.filter (fun x:zk=>decide (x.PC=6))).map fun x:zk=>x.G).length<=s.Ws.length:=by rw [zKv];exact zKN _ _
 obtain ⟨e,_⟩:=ZO (f:=Y9) (fun j r=>(s.Ms,(s.Ms.length:Int),j,r,())) (fun r=>(r,())) s.Ms (zLh h2 (by decide)) (fun r x=>bif decide (x.PC=3\/x.PC=37) then r++[x.G] else r) (fun i r=>r.length<=i+100) (s:=(s.Ws.filter (fun x:zk=>decide (x.PC=6))).map fun x:zk=>x.G) (by omega)
  (fun i r x hx hi hr=>by
   refine ⟨?_,?_⟩
   .cases decide (x.PC=3\/x.PC=37)
    .show r.length<=_;omega
    .show (r++[x.G]).length<=_;simp;omega
   show Y9 (s.Ms,(s.Ms.length:Int),(i:Int),r,())=_;rw [zex,zo,zY,yZ hx,zJA,zDW,zJA,yC (by simp;omega),zJA,yH];dsimp only;cases decide (x.PC=3\/x.PC=37)<;>rfl)
  (fun r hr=>by
   show Y9 (s.Ms,(s.Ms.length:Int),(s.Ms.length:Int),r,())=_;rw [zex,zo,zi])
 rw [zpO] at e;rw [e];rfl
theorem zAL (g:zB):owG g=0\/owG g=1:=by unfold owG;split<;>simp
theorem zFq (g:zB):zn0 g=some (owG g,()):=by
 rw [zxj,zlj];simp only [zo];unfold owG;by_cases c1:g.Out=0
 .rw [zb c1];by_cases c2:1<=g.PC
  .rw [zb c2];by_cases c3:g.PC<=2
   .rw [zb c3,zb ⟨c1,by omega⟩];rfl
   .rw [zc c3,zi];rfl
  .rw [zc c2,zi];rfl
 .rw [zc c1,zc (fun e=>c1 e.1)];rfl
theorem znf {α:Type}(f:α->Int):∀(l:List α) (a:Int),l.foldl (fun r x=>r+f x) a=a+(l.map f).sum
 | [],a=>by simp
 | x::l,a=>by rw [zKq,znf f l,zKw,zKA];omega
theorem zrs {α:Type}(c:α->Bool) (f g h:α->Int) (e:∀x,h x=(bif c x then f x else 0)+g x):∀l:List α,(l.map h).sum=((l.filter c).map f).sum+(l.map g).sum
 | []=>rfl
 | x::l=>by
  rw [zKw,zKA,zrs c f g h e l,List.filter_cons,e x,zKw,zKA];cases c x<;>simp<;>omega
theorem zFo (s:za):zai s=((Zh s).map owG).sum+(s.Ws.map fun x=>if x.PC=9 then (1:Int) else 0).sum+(s.Ms.map fun x=>if x.PC=39 then (1:Int) else 0).sum:=by
 have hW:=zrs (fun x:zk=>decide (x.PC=6)) (fun x=>owG x.G) (fun x=>if x.PC=9 then (1:Int) else 0) owW (fun x=>by
  unfold owW;by_cases c:x.PC=9
  .rw [zb c,zb c,decide_eq_false (show ¬x.PC=6 by omega)];rfl
  .rw [zc c,zc c];by_cases c6:x.PC=6
   .rw [zb c6,decide_eq_true c6];show owG x.G=owG x.G+0;omega
   .rw [zc c6,decide_eq_false c6];rfl) s.Ws
 have hX:=zrs (fun x:ze=>decide (x.PC=3\/x.PC=37)) (fun x=>owG x.G) (fun x=>if x.PC=39 then (1:Int) else 0) owX (fun x=>by
  unfold owX;by_cases c:x.PC=39
  .rw [zb c,zb c,decide_eq_false (show ¬(x.PC=3\/x.PC=37) by omega)];rfl
  .rw [zc c,zc c];by_cases c6:x.PC=3\/x.PC=37
   .rw [zb c6,decide_eq_true c6];show owG x.G=owG x.G+0;omega
   .rw [zc c6,decide_eq_false c6];rfl) s.Ms
 unfold zai Zh;rw [hW,hX,List.map_append,List.sum_append,List.map_map,List.map_map];have a1:(List.map (owG ∘ fun x:zk=>x.G) (s.Ws.filter fun x=>decide (x.PC=6)))=(s.Ws.filter fun x=>decide (x.PC=6)).map fun x=>owG x.G:=rfl;have a2:(List.map (owG ∘ fun x:ze=>x.G) (s.Ms.filter fun x=>decide (x.PC=3\/x.PC=37)))=(s.Ms.filter fun x=>decide (x.PC=3\/x.PC=37)).map fun x=>owG x.G:=rfl;rw [a1,a2];omega
theorem zFH {s:za}(h1:s.Ws.length<=100) (h2:s.Ms.length<=100):zn7 s=some (zai s,()):=by
 rw [zxF,zqA h1 h2,zJA];dsimp only;have hl:(Zh s).length<=200:=by
  unfold Zh;rw [zJN,zKv,zKv];have:=zKN (fun x:zk=>decide (x.PC=6)) s.Ws;have:=zKN (fun x:ze=>decide (x.PC=3\/x.PC=37)) s.Ms;omega
 obtain ⟨e,b1,b2⟩:=ZO (f:=UR) (fun j r=>(r,((Zh s).length:Int),j,s,Zh s,())) (fun r=>(r,s,())) (Zh s) (by omega) (fun r x=>r+owG x) (fun i r=>0<=r/\r<=(i:Int)) (s:=0) ⟨by omega,by omega⟩
  (fun i r x hx hi hr=>by
   have:=zAL x;refine ⟨⟨by omega,by omega⟩,?_⟩;show UR (r,((Zh s).length:Int),(i:Int),s,Zh s,())=_;rw [zjC,zo,zY,ve,zJA,zKi,hx,zJA,zFq,zJA,yH,zU])
  (fun r hr=>by
   show UR (r,((Zh s).length:Int),((Zh s).length:Int),s,Zh s,())=_;rw [zjC,zo,zi])
 rw [znf] at e b1 b2;rw [e,zJA];dsimp only;generalize hr0:0+((Zh s).map owG).sum=r0 at b1 b2;obtain ⟨e,b3,b4⟩:=ZO (f:=UG) (fun j r=>(r,s.Ws,(s.Ws.length:Int),j,s,())) (fun r=>(r,s,())) s.Ws (by omega) (fun (r:Int) x=>r+if x.PC=9 then 1 else 0) (fun i r=>0<=r/\r<=200+(i:Int)) (s:=r0) ⟨by omega,by omega⟩
  (fun i r x hx hi hr=>by
   refine ⟨⟨by split<;>omega,by split<;>omega⟩,?_⟩;show UG (r,s.Ws,(s.Ws.length:Int),(i:Int),s,())=_;rw [zjH,zo,zY,yZ hx,zJA,yH,zo];by_cases c:x.PC=9
   .rw [zb c,zb c,zU]
   .rw [zc c,zc c,show r+0=r by omega])
  (fun r hr=>by
   show UG (r,s.Ws,(s.Ws.length:Int),(s.Ws.length:Int),s,())=_;rw [zjH,zo,zi])
 rw [znf] at e b3 b4;rw [e,zJA];dsimp only;generalize hr1:r0+(s.Ws.map fun x=>if x.PC=9 then (1:Int) else 0).sum=r1 at b3 b4;obtain ⟨e,_⟩:=ZO (f:=VI) (fun j r=>(r,s.Ms,(s.Ms.length:Int),j,())) (fun r=>(r,())) s.Ms (by omega) (fun (r:Int) x=>r+if x.PC=39 then 1 else 0) (fun i r=>0<=r/\r<=400+(i:Int)) (s:=r1) ⟨by omega,by omega⟩
  (fun i r x hx hi hr=>by
   refine ⟨⟨by split<;>omega,by split<;>omega⟩,?_⟩;show VI (r,s.Ms,(s.Ms.length:Int),(i:Int),())=_;rw [ziK,zo,zY,yZ hx,zJA,yH,zo];by_cases c:x.PC=39
   .rw [zb c,zb c,zU]
   .rw [zc c,zc c,show r+0=r by omega])
  (fun r hr=>by
   show VI (r,s.Ms,(s.Ms.length:Int),(s.Ms.length:Int),())=_;rw [ziK,zo,zi])
 rw [znf] at e;rw [e,zJA,zFo];dsimp only;rw [<-hr1,<-hr0];congr 2;omega
theorem zEH (s:za):0<=zai s/\zai s<=(s.Ws.length:Int)+(s.Ms.length:Int):=by
 have b:∀ {α:Type}(f:α->Int),(∀x,0<=f x/\f x<=1)->∀l:List α,0<=(l.map f).sum/\(l.map f).sum<=(l.length:Int):=fun f hf l=>by
  induction l with
  | nil=>exact ⟨zKl _,zKl _⟩
  | cons x l ih =>
   have:=hf x;rw [zKw,zKA,zJS];omega
 have h1:=b owW (fun x=>by
  have:=zAL x.G;unfold owW;split
  .omega
  .split<;>omega) s.Ws
 have h2:=b owX (fun x=>by
  have:=zAL x.G;unfold owX;split
  .omega
  .split<;>omega) s.Ms
 unfold zai;omega
inductive Reach (h:zq) (R:BitVec 64):Int->Prop
 | root (o:Int) (h1:zI R o=true) (h2:1<=o/\o<=(h.Objs.length:Int)):Reach h R o
 | step (o v:Int) (h1:Reach h R o) (h2:v∈zF h o) (h3:1<=v/\v<=(h.Objs.length:Int)):Reach h R v
theorem Reach.in {h:zq}{R:BitVec 64}{o:Int}(r:Reach h R o):1<=o/\o<=(h.Objs.length:Int):=by
 cases r with
 | root _ _ h2=>exact h2
 | step _ _ _ _ h3=>exact h3
theorem zDF:∀t:Fin 512,zp3 66 (BitVec.ofNat 64 t.1)=some (((List.range 9).filter fun i=>(BitVec.ofNat 64 t.1).getLsbD i).map fun i:Nat=>(i:Int)+1):=by decide +kernel
def Yb (s:BitVec 64):List Int:=((List.range 9).filter fun i=>s.getLsbD i).map fun i:Nat=>(i:Int)+1
theorem zH4:∀t:Fin 512,Go.Lib.ctz 64 t.1<=64:=by decide +kernel
theorem zyG:∀(f:Nat) (s:BitVec 64),s.toNat<512->zag f s=zp3 f s
 | 0,_,_=>rfl
 | f+1,s,h=>by
  simp only [zag,zp3];rw [zyG f _ (by rw [zKF];exact zLh Nat.and_le_left h)];have:Go.Lib.ctz 64 s.toNat<=64:=zH4 ⟨s.toNat,h⟩;have e:w64 (tz s+1)=((Go.Lib.ctz 64 s.toNat:Nat):Int)+1:=by
   unfold tz;exact zU
  rw [e]
theorem zEK (s:BitVec 64) (o:Int):o∈Yb s↔1<=o/\o<=9/\zI s o=true:=by
 unfold Yb;rw [zJO];constructor
 .rintro ⟨i,hi,rfl⟩;obtain ⟨a,b⟩:=zKW.1 hi;have a:=zJ1.1 a;exact ⟨by omega,by omega,(xp _ _).2 ⟨by omega,by omega,by rw [show ((i:Int)+1-1).toNat=i by omega];exact b⟩⟩
 .rintro ⟨a,b,c⟩;obtain ⟨_,_,d⟩:=(xp _ _).1 c;exact ⟨(o-1).toNat,zKW.2 ⟨zJ1.2 (by omega),d⟩,by omega⟩
theorem zym (s:BitVec 64):(Yb s).length<=9:=by
 unfold Yb;rw [zKv];exact zKG (zKN _ _) (by simp)
theorem zFL {s:BitVec 64}(h:∀o,zI s o=true->o<=9):zfh s=some (Yb s,()):=by
 obtain ⟨t,rfl⟩:=zzP h;have e:zkT (BitVec.ofNat 64 t.1)=some (Yb (BitVec.ofNat 64 t.1)):=by
  show zag 66 _=_;rw [zyG 66 _ (by simp;omega),zDF t];rfl
 have:=zym (BitVec.ofNat 64 t.1);rw [zqy,zqx,zJA,e,zJA,zpS _ _ (by simp;omega)];rfl
theorem zsv {α:Type}{l:List α}{n:Nat}{i:Int}(h:0<=i) (h1:i<l.length) (h2:i<n):zgM l n i=some i.toNat:=by
 unfold zgM;simp [h,h1,h2]
def mt (met:List Int) (o:Int):Int:=met.getD (o-1).toNat 0
def Vb (met:List Int):Nat:=met.countP (fun x=>decide (x=0))
theorem zuK {met:List Int}{o:Int}(h:1<=o/\o<=(met.length:Int)):met[(o-1).toNat]? =some (mt met o):=by
 have e:=zJC (show (o-1).toNat<met.length by omega);unfold mt;rw [zJD,e];rfl
theorem zlq {met:List Int}{o q x:Int}(h:1<=o/\o<=(met.length:Int)) (hq:1<=q):mt (met.set (o-1).toNat x) q=if q=o then x else mt met q:=by
 unfold mt;rw [zJD,zJD,zKo];by_cases e:q=o
 .subst e;rw [zb rfl,zb rfl,zY];rfl
 .rw [zi,zc e]
theorem zFk {met:List Int}{o x:Int}(h:1<=o/\o<=(met.length:Int)) (h0:mt met o=0) (hx:x≠0):Vb (met.set (o-1).toNat x)+1=Vb met:=by
 have hl:(o-1).toNat<met.length:=by omega
 have e:met[(o-1).toNat]'hl=0:=by
  have:=zuK h;rw [h0,zJC hl] at this;exact Option.some.inj this
 have hm:(0:Int)∈met:=by rw [<-e];exact zJY hl
 have hp:0<Vb met:=List.countP_pos_iff.2 ⟨0,hm,by simp⟩;unfold Vb at hp ⊢;rw [List.countP_set hl,e];simp [hx];omega
structure RI (h:zq) (R:BitVec 64) (met wait:List Int):Prop where
 len:met.length=64
 val:∀o,1<=o->0<=mt met o/\mt met o<=100-(Vb met:Int)
 rc:∀o,1<=o->0<mt met o->Reach h R o
 rt:∀o,zI R o=true->1<=o/\o<=(h.Objs.length:Int)->0<mt met o
 wt:∀o∈wait,(1<=o/\o<=(h.Objs.length:Int))/\0<mt met o
 cl:∀o,1<=o->0<mt met o->o∉wait->∀v∈zF h o,1<=v/\v<=(h.Objs.length:Int)->0<mt met v
 zl:Vb met<=64
theorem zHb (met:List Int):Vb met<=met.length:=List.countP_le_length
theorem RI.add {h:zq}{R:BitVec 64}{met wait:List Int}{o v:Int}(hn:h.Objs.length<=9) (I:RI h R met wait) (ho:o∈wait) (hv:v∈zF h o) (hr:1<=v/\v<=(h.Objs.length:Int)) (h0:mt met v=0) :
  RI h R (met.set (v-1).toNat (mt met o+1)) (wait++[v])/\Vb (met.set (v-1).toNat (mt met o+1))+1=Vb met:=by
 obtain ⟨ho1,ho2⟩:=I.wt o ho;have hlen:=I.len;have hvl:1<=v/\v<=(met.length:Int):=by omega
 have hz:=zFk (x:=mt met o+1) hvl h0 (by omega);have hval:=I.val o ho1.1;have hzl:=I.zl;have key:∀q,1<=q->0<mt met q->0<mt (met.set (v-1).toNat (mt met o+1)) q:=fun q hq hp=>by
  rw [zlq hvl hq];split<;>omega
 refine ⟨⟨by rw [zJ6];exact hlen,fun q hq=>?_,fun q hq hp=>?_,fun q a b=>key q b.1 (I.rt q a b),fun q hq=>?_,fun q hq hp hw u hu hur=>?_,by omega⟩,hz⟩
 .have:=I.val q hq;rw [zlq hvl hq];split<;>omega
 .rw [zlq hvl hq] at hp;split at hp
  .rename_i e;subst e;exact .step o q (I.rc o ho1.1 ho2) hv hr
  .exact I.rc q hq hp
 .rcases zJZ.1 hq with hq | hq
  .exact ⟨(I.wt q hq).1,key q (I.wt q hq).1.1 (I.wt q hq).2⟩
  .simp at hq;subst hq;refine ⟨hr,?_⟩;rw [zlq hvl hr.1,zb rfl];omega
 .have hw1:q∉wait:=fun e=>hw (zJV _ e);have hw2:q≠v:=fun e=>hw (by rw [e];simp);rw [zlq hvl hq,zc hw2] at hp;exact key u hur.1 (I.cl q hq hp hw1 u hu hur)
theorem RI.rm {h:zq}{R:BitVec 64}{met:List Int}{o:Int}{w:List Int}(I:RI h R met (o::w)) (hd:∀v∈zF h o,1<=v/\v<=(h.Objs.length:Int)->0<mt met v):RI h R met w :=
 ⟨I.len,I.val,I.rc,I.rt,fun q hq=>I.wt q (zJI _ hq),fun q hq hp hw v hv hr=>by
  by_cases e:q=o
  .rw [e] at hv;exact hd v hv hr
  .exact I.cl q hq hp (fun h=>(zJT.1 h).elim e hw) v hv hr,I.zl⟩
theorem zEn {h:zq}{R:BitVec 64}(hn:h.Objs.length<=9) {o:Int}{w0:List Int}{a7:List Int}(hs:(zF h o).length<1000000):∀(n:Nat) (met added:List Int) (i:Nat),(zF h o).length-i=n->i<=(zF h o).length->RI h R met (o::w0++added)->(o::w0++added).length+Vb met<=200 ->
  (∀v∈(zF h o).take i,1<=v/\v<=(h.Objs.length:Int)->0<mt met v)->∀m,n<m ->
  ∃met' added',yK vD m (xz (h.Objs.length:Int),o,zF h o,((zF h o).length:Int),(i:Int),h,a7,met,o::w0++added,())=some (.brk (xz (h.Objs.length:Int),h,a7,met',o::w0++added',())) /\
   RI h R met' (o::w0++added')/\(o::w0++added').length+Vb met'=(o::w0++added).length+Vb met/\Vb met'<=Vb met/\(∀v∈zF h o,1<=v/\v<=(h.Objs.length:Int)->0<mt met' v):=by
 intro n
 induction n with
 | zero =>
  intro met added i hk hi I hz hd m hm;obtain ⟨m,rfl⟩:∃x,m=x+1:=⟨m-1,by omega⟩
  have e:i=(zF h o).length:=by omega
  subst e;rw [zLf] at hd;refine ⟨met,added,?_,I,rfl,zJF _,hd⟩;rw [yK,Xr,zo,zi];rfl
 | succ n ih =>
  intro met added i hk hi I hz hd m hm;obtain ⟨m,rfl⟩:∃x,m=x+1:=⟨m-1,by omega⟩
  have hx:=zJC (show i<(zF h o).length by omega);generalize hxv:(zF h o)[i]'(by omega)=v at hx;have hv:v∈zF h o:=zJG hx;have hlen:=I.len;have ho:=I.wt o (by simp);have hval:=I.val o ho.1.1;have htk:(zF h o).take (i+1)=(zF h o).take i++[v]:=by rw [zKU,hx];rfl
  rw [yK,Xr,zo,zY,yZ hx,zJA,zkN,zJA];have hb:=YY hn v;unfold zI at hb;by_cases hr:1<=v/\v<=(h.Objs.length:Int)
  .have hb1:=hb.2 hr;dsimp only;rw [hb1,cond_true,zU (a:=v-1) (by omega) (by omega),zsv (by omega) (by omega) (by omega),zJA,zuK (by omega),zJA,zo];by_cases h0:mt met v=0
   .rw [zb h0,zU (a:=o-1) (by omega) (by omega),zsv (by omega) (by omega) (by omega),zJA,zuK (by omega),zJA,zJA,yC (by rw [zJN];show _+1<_;omega),zJA,zU (a:=(i:Int)+1) (by omega) (by omega),zU (a:=mt met o+1) (by omega) (by omega),zJA];obtain ⟨I',hz'⟩:=I.add hn (by simp) hv hr h0;dsimp only;rw [zJJ] at I' ⊢;have hz2:(o::w0++(added++[v])).length=(o::w0++added).length+1:=by simp;omega
    obtain ⟨met',added',e1,e2,e3,e4,e5⟩:=ih (met.set (v-1).toNat (mt met o+1)) (added++[v]) (i+1) (by omega) (by omega) I' (by omega) (fun q hq hqr=>by
     rw [zlq (by omega) hqr.1];split
     .omega
     .rename_i hne;rw [htk] at hq;rcases zJZ.1 hq with hq | hq
      .exact hd q hq hqr
      .simp at hq;exact absurd hq hne) m (by omega)
    refine ⟨met',added',?_,e2,by omega,by omega,e5⟩;have:((i+1:Nat):Int)=(i:Int)+1:=by omega
    rw [<-this];exact e1
   .rw [zc h0,zU (a:=(i:Int)+1) (by omega) (by omega),zJA];have hp:0<mt met v:=by have:=I.val v hr.1;omega
    obtain ⟨met',added',e1,e2⟩:=ih met added (i+1) (by omega) (by omega) I hz (fun q hq hqr=>by
     rw [htk] at hq;rcases zJZ.1 hq with hq | hq
     .exact hd q hq hqr
     .simp at hq;rw [hq];exact hp) m (by omega)
    refine ⟨met',added',?_,e2⟩;have:((i+1:Nat):Int)=(i:Int)+1:=by omega
    rw [<-this];exact e1
  .have hb1:(!(decide (xz (h.Objs.length:Int)&&&bit v=0#64)))=false:=by
    cases hc:(!(decide (xz (h.Objs.length:Int)&&&bit v=0#64))) with
    | false=>rfl
    | true=>exact absurd (hb.1 hc) hr
   dsimp only;rw [hb1,cond_false,zU (a:=(i:Int)+1) (by omega) (by omega),zJA];obtain ⟨met',added',e1,e2⟩:=ih met added (i+1) (by omega) (by omega) I hz (fun q hq hqr=>by
    rw [htk] at hq;rcases zJZ.1 hq with hq | hq
    .exact hd q hq hqr
    .simp at hq;rw [hq] at hqr;exact absurd hqr hr) m (by omega)
   refine ⟨met',added',?_,e2⟩;have:((i+1:Nat):Int)=(i:Int)+1:=by omega
   rw [<-this];exact e1
theorem zpq {A B D:Type}{f:A->Option (yD A B D)}{x:A}{b:B}{n:Nat}(h:yK f n x=some (.brk b)) (hn:n<=vv):zX f x=some (.brk b):=by
 rw [YI];have key:∀(n m:Nat) (x:A),yK f n x=some (.brk b)->n<=m->yK f m x=some (.brk b):=by
  intro n
  induction n with
  | zero=>intro m x h;cases h
  | succ n ih =>
   intro m x h hm;obtain ⟨m,rfl⟩:∃q,m=q+1:=⟨m-1,by omega⟩
   simp only [yK,zJL] at h ⊢;obtain ⟨s,h1,h2⟩:=h;refine ⟨s,h1,?_⟩;cases s with
   | again y=>exact ih m y h2 (by omega)
   | brk b'=>exact h2
   | ret c=>exact h2
 exact key n vv x h hn
theorem zGC {h:zq}{R:BitVec 64}(hn:h.Objs.length<=9) (hs:∀o,(zF h o).length<1000000) {a7:List Int}:∀(n:Nat) (met wait:List Int),wait.length+2*Vb met<=n->wait.length+Vb met<=200->RI h R met wait->∀m,n<m ->
  ∃met',yK Z4 m (xz (h.Objs.length:Int),h,a7,met,wait,())=some (.brk (a7,met',()))/\RI h R met' []:=by
 intro n
 induction n with
 | zero =>
  intro met wait hz hz2 I m hm;obtain ⟨m,rfl⟩:∃x,m=x+1:=⟨m-1,by omega⟩
  have:wait=[]:=zKp (by omega);subst this;refine ⟨met,?_,I⟩;rw [yK,Zb,zo,zc (by simp)];rfl
 | succ n ih =>
  intro met wait hz hz2 I m hm;obtain ⟨m,rfl⟩:∃x,m=x+1:=⟨m-1,by omega⟩
  cases wait with
  | nil =>
   refine ⟨met,?_,I⟩;rw [yK,Zb,zo,zc (by simp)];rfl
  | cons o w =>
   have ho:=(I.wt o (by simp)).1;have hso:=hs o;have eo:=zJC (show (o-1).toNat<h.Objs.length by omega);have es:h.Objs[(o-1).toNat]'(by omega)=zF h o:=by unfold zF;rw [zJD,eo];rfl
   obtain ⟨met',added',e1,e2,e3,e4,e5⟩:=zEn (a7:=a7) hn (o:=o) (w0:=w) hso _ met [] 0 rfl (zKM _) (by simpa using I) (by simpa using hz2) (fun v hv=>by simp at hv) ((zF h o).length+1) (by omega);simp only [zJE,Int.natCast_zero] at e1 e3;have e1:yK vD ((zF h o).length+1) (xz (h.Objs.length:Int),o,zF h o,((zF h o).length:Int),0,h,a7,met,o::w,())=some (.brk (xz (h.Objs.length:Int),h,a7,met',o::w++added',())):=e1;have hidx:xM (o::w) 0=some 0:=by rw [ve (by omega) (by simp)];rfl
   rw [yK,Zb,zo,zb (by simp),hidx,zJA];simp only [zKE,zJA,zsL,zJQ,cond_false];rw [zU (a:=o-1) (by omega) (by omega),vu,eo,zJA,es,zpq e1 (by have:vv=18446744073709551616:=rfl;omega)];dsimp only [zJA];rw [zK3,zuc,zJA,zJA];dsimp only;rw [zK3] at e2;exact ih met' (w++added') (by simp at e3 hz ⊢;omega) (by simp at e3 hz2 ⊢;omega) (e2.rm e5) m (by omega)
theorem zId (o:Int):mt (List.replicate 64 (0:Int)) o=0:=by
 unfold mt;rw [zJD,zK4];split<;>rfl
theorem zEq {h:zq}{a1:BitVec 64}{a5:List Int}:∀(n i:Nat) (l met:List Int),l.length-i=n->i<=l.length->l.length<1000000->(∀o∈l,1<=o/\o<=9)->met.length=64->(∀o,1<=o->mt met o=if o∈l.take i then 1 else 0)->∀m,n<m ->
  ∃met',yK Z5 m (a1,(l.length:Int),(i:Int),h,a5,met,l,())=some (.brk (a1,h,a5,met',l,()))/\met'.length=64/\∀o,1<=o->mt met' o=if o∈l then 1 else 0:=by
 intro n
 induction n with
 | zero =>
  intro i l met hk hi hl hr hm ht m hm2;obtain ⟨m,rfl⟩:∃x,m=x+1:=⟨m-1,by omega⟩
  have e:i=l.length:=by omega
  subst e;rw [zLf] at ht;refine ⟨met,?_,hm,ht⟩;rw [yK,X2,zo,zi];rfl
 | succ n ih =>
  intro i l met hk hi hl hr hm ht m hm2;obtain ⟨m,rfl⟩:∃x,m=x+1:=⟨m-1,by omega⟩
  have hx:=zJC (show i<l.length by omega);generalize hxv:l[i]'(by omega)=v at hx;have hv:=hr v (zJG hx);have htk:l.take (i+1)=l.take i++[v]:=by rw [zKU,hx];rfl
  rw [yK,X2,zo,zY,ve,zJA,zKi,hx,zJA,zU (a:=v-1) (by omega) (by omega),zsv (by omega) (by omega) (by omega),zJA,zU (a:=(i:Int)+1) (by omega) (by omega),zJA];obtain ⟨met',e1,e2⟩:=ih (i+1) l (met.set (v-1).toNat 1) (by omega) (by omega) hl hr (by rw [zJ6];exact hm) (fun o ho=>by
   rw [zlq (by omega) ho,ht o ho,htk];by_cases e:o=v
   .rw [zb e,zb (by rw [e];simp)]
   .rw [zc e];by_cases e2:o∈l.take i
    .rw [zb e2,zb (zJV _ e2)]
    .rw [zc e2,zc (fun h=>(zJZ.1 h).elim e2 (fun h=>e (by simpa using h)))]) m (by omega)
  refine ⟨met',?_,e2⟩;have:((i+1:Nat):Int)=(i:Int)+1:=by omega
  rw [<-this];exact e1
theorem zBY {met:List Int}(hl:met.length=64):∃S,zdQ met=some (S,())/\∀o,zI S o=true↔1<=o/\0<mt met o:=by
 rw [zqO,zo,zb hl];have key:=wS (f:=zbl) (fun a=>∃(i:Nat) (S:BitVec 64),i<=64/\a=(S,met,(i:Int),())/\∀o,zI S o=true↔(1<=o/\o<=(i:Int))/\0<mt met o) (fun a=>64-a.2.2.1.toNat) (fun o=>∃S,o= .brk (S,())/\∀o,zI S o=true↔1<=o/\0<mt met o) (by
  rintro _ ⟨i,S,hi,rfl,hS⟩;rw [znL,zo];by_cases c:(i:Int)<64
  .have hx:=zuK (met:=met) (o:=(i:Int)+1) (by omega);rw [show ((i:Int)+1-1).toNat=i by omega] at hx;rw [zb c,zsv (by omega) (by omega) c,zJA,zKi,hx,zJA,zo,zU (a:=(i:Int)+1) (by omega) (by omega),zg3,zJA];by_cases hp:0<mt met ((i:Int)+1)
   .rw [zb hp];refine ⟨_,rfl,⟨i+1,_,by omega,rfl,fun o=>?_⟩,?_⟩
    .dsimp only;rw [yN _ (by omega),hS o];constructor
     .rintro (⟨a,b⟩ | rfl)
      .exact ⟨by omega,b⟩
      .exact ⟨by omega,hp⟩
     .rintro ⟨a,b⟩;by_cases e:o=(i:Int)+1
      .exact .inr e
      .exact .inl ⟨by omega,b⟩
    .show 64-((i:Int)+1).toNat<64-(i:Int).toNat;omega
   .rw [zc hp];refine ⟨_,rfl,⟨i+1,S,by omega,rfl,fun o=>?_⟩,?_⟩
    .rw [hS o];constructor
     .rintro ⟨a,b⟩;exact ⟨by omega,b⟩
     .rintro ⟨a,b⟩;by_cases e:o=(i:Int)+1
      .rw [e] at b;exact absurd b hp
      .exact ⟨by omega,b⟩
    .show 64-((i:Int)+1).toNat<64-(i:Int).toNat;omega
  .rw [zc c];refine ⟨_,rfl,S,rfl,fun o=>?_⟩;rw [hS o];have hi:i=64:=by omega
   subst hi;constructor
   .rintro ⟨a,b⟩;exact ⟨a.1,b⟩
   .rintro ⟨a,b⟩;refine ⟨⟨a,?_⟩,b⟩;by_cases h:64<o
    .exfalso;unfold mt at b;rw [zJD,zKH (by omega)] at b;exact absurd b (by show ¬(0:Int)<0;decide)
    .show o<=64;omega) (0#64,met,0,()) ⟨0,0#64,by omega,rfl,fun o=>⟨fun e=>absurd e (ZI o),fun e=>by have:=e.1;omega⟩⟩ (by show 64-0<18446744073709551616;decide)
 obtain ⟨o,e,S,rfl,hS⟩:=key;refine ⟨S,?_,hS⟩;exact congrArg (fun o=>Option.bind o _) e
theorem zA8 {h:zq}(hn:h.Objs.length<=9) (hs:∀l∈h.Objs,l.length<1000000) (R:BitVec 64):∃S,UJ h R=some (S,())/\∀o,zI S o=true↔Reach h R o:=by
 have hso:∀o,(zF h o).length<1000000:=fun o=>by
  unfold zF;rw [zJD];cases hx:h.Objs[(o-1).toNat]? with
  | none=>show ([]:List Int).length<_;simp
  | some l=>exact hs l (zJG hx)
 have hF:=fun o=>YY hn o;have hA:∀o,zI (R&&&xz (h.Objs.length:Int)) o=true↔zI R o=true/\1<=o/\o<=(h.Objs.length:Int):=fun o=>by rw [ui,hF]
 have h9:∀o,zI (R&&&xz (h.Objs.length:Int)) o=true->o<=9:=fun o e=>by have:=(hA o).1 e;omega
 have hw:=zEK (R&&&xz (h.Objs.length:Int));have hwl:=zym (R&&&xz (h.Objs.length:Int));generalize hwd:Yb (R&&&xz (h.Objs.length:Int))=wait at hw hwl;obtain ⟨met,e1,m1,m2⟩:=zEq (h:=h) (a1:=xz (h.Objs.length:Int)) (a5:=List.replicate 64 (0:Int)) wait.length 0 wait (List.replicate 64 (0:Int)) rfl (zKM _) (by omega) (fun o ho=>by have:=(hw o).1 ho;omega) (by simp) (fun o _=>by rw [zId];simp) (wait.length+1) (by omega);have hz:=zHb met;have I:RI h R met wait:=by
  refine ⟨m1,fun o ho=>?_,fun o ho hp=>?_,fun o ho hr=>?_,fun o ho=>?_,fun o ho hp hno=>?_,by omega⟩
  .rw [m2 o ho];split<;>omega
  .rw [m2 o ho] at hp;split at hp
   .rename_i hm;have a:=(hA o).1 ((hw o).1 hm).2.2;exact .root o a.1 a.2
   .omega
  .rw [m2 o hr.1,zb ((hw o).2 ⟨hr.1,by omega,(hA o).2 ⟨ho,hr⟩⟩)];decide
  .have a:=(hA o).1 ((hw o).1 ho).2.2;refine ⟨a.2,?_⟩;rw [m2 o a.2.1,zb ho];decide
  .rw [m2 o ho,zc hno] at hp;omega
 obtain ⟨met',e2,I'⟩:=zGC (a7:=List.replicate 64 (0:Int)) hn hso (wait.length+2*Vb met) met wait (zJF _) (by omega) I (wait.length+2*Vb met+1) (by omega);obtain ⟨S,e3,hS⟩:=zBY I'.len;refine ⟨S,?_,fun o=>?_⟩
 .have hrd:vv=18446744073709551616:=rfl;have ew:YL h R=some (met',()):=by
   rw [zeH,zez _ (by omega),zJA,zFL h9,zJA,hwd];refine (congrArg (fun o=>Option.bind o _) (zpq e1 (by omega))).trans ?_;rw [zJA];dsimp only;refine (congrArg (fun o=>Option.bind o _) (zpq e2 (by omega))).trans ?_;rw [zJA];dsimp only;rw [zo,zo,zo,zb I'.len,zb (by simp),zb I'.len]
  rw [zwr,ew,zJA,e3];rfl
 .rw [hS o];constructor
  .rintro ⟨a,b⟩;exact I'.rc o a b
  .intro r
   induction r with
   | root o h1 h2=>exact ⟨h2.1,I'.rt o h1 h2⟩
   | step o v _ h2 h3 ih=>exact ⟨h3.1,I'.cl o ih.1 ih.2 (by simp) v h2 h3⟩
def zsr (h:zq) (R:BitVec 64):BitVec 64:=match UJ h R with | some x=>x.1 | none=>0#64
theorem zu8 {h:zq}(hn:h.Objs.length<=9) (hs:∀l∈h.Objs,l.length<1000000) (R:BitVec 64):UJ h R=some (zsr h R,()):=by
 obtain ⟨S,e,_⟩:=zA8 hn hs R;unfold zsr;rw [e]
theorem zyI {h:zq}(hn:h.Objs.length<=9) (hs:∀l∈h.Objs,l.length<1000000) (R:BitVec 64) (o:Int):zI (zsr h R) o=true↔Reach h R o:=by
 obtain ⟨S,e,h2⟩:=zA8 hn hs R;unfold zsr;rw [e];exact h2 o
theorem zBb (s:BitVec 64):List.Pairwise (fun a b:Int=>a<=b) (Yb s):=by
 unfold Yb;rw [List.pairwise_map];refine (List.Pairwise.filter _ (List.pairwise_lt_range (n:=9))).imp (fun h=>?_);omega
theorem ztu (s:BitVec 64):(Yb s).Nodup:=by
 unfold Yb;have:List.Pairwise (fun a b:Int=>a≠b) (((List.range 9).filter fun i=>s.getLsbD i).map fun i:Nat=>(i:Int)+1):=by
  rw [List.pairwise_map];refine (List.Pairwise.filter _ (List.pairwise_lt_range (n:=9))).imp (fun h=>?_);omega
 exact this
theorem znu {s:BitVec 64}{o:Int}:o∈Yb s↔zI s o=true/\o<=9:=by
 unfold Yb;rw [zJO];constructor
 .rintro ⟨i,hi,rfl⟩;rw [zKW,zJ1] at hi;refine ⟨(xp _ _).2 ⟨by omega,by omega,?_⟩,by omega⟩;rw [show ((i:Int)+1-1).toNat=i by omega];exact hi.2
 .rintro ⟨h,h9⟩;obtain ⟨a,b,c⟩:=(xp _ _).1 h;exact ⟨(o-1).toNat,zKW.2 ⟨zJ1.2 (by omega),c⟩,by omega⟩
def zbD (s:za):BitVec 64:=s.T.Marks&&& ~~~s.T.Black
theorem zno {s:za}(o:Int):zI (zbD s) o=true↔yh s.T o=1:=by
 unfold zbD;rw [ui,wY];constructor
 .rintro ⟨a,b⟩;have:=(xp _ _).1 a;exact ⟨a,(zd2 _ ⟨this.1,this.2.1⟩).1 b⟩
 .rintro ⟨a,b⟩;have:=(xp _ _).1 a;exact ⟨a,(zd2 _ ⟨this.1,this.2.1⟩).2 b⟩
theorem zGa {p:zd}(h:zD p) {nb k:Nat}{s:za}{gh:Gh}(G:FG p nb k s gh):List.Perm (vG p s gh) (Yb (zbD s)):=by
 refine (List.perm_ext_iff_of_nodup G.B.nd (ztu _)).2 (fun o=>?_);rw [znu,zno,G.B.gr];exact ⟨fun e=>⟨e,((G.bag9 h).2 o ((G.B.gr o).2 e)).2⟩,fun e=>e.1⟩
theorem zGT {p:zd}(h:zD p) {nb k:Nat}{s:za}{gh:Gh}(G:FG p nb k s gh):ZF (vG p s gh)=Yb (zbD s) :=
 zr3 (zdb _) (zBb _) ((VP _).trans (zGa h G))
theorem zAf {p:zd}(h:zD p) {k:Nat}{s:za}{gh:Gh}(G:FG p (z5 p+1) k s gh):zds s=some (Yb (zbD s),()):=by
 rw [zFC h G,zGT h G]
theorem zEU {p:zd}(h:zD p) {nb k:Nat}{s:za}{gh:Gh}(G:FG p nb k s gh):∀o,zI (zbD s) o=true->o<=9:=fun o ho=>((G.bag9 h).2 o ((G.B.gr o).2 ((zno o).1 ho))).2
theorem zFS {p:zd}(h:zD p) {nb k:Nat}{s:za}{gh:Gh}(G:FG p nb k s gh):cnt (zbD s)=((vG p s gh).length:Int):=by
 obtain ⟨e1,e2⟩:=zCY (G.bag9 h).2 G.B.nd;have:Uw (vG p s gh)=zbD s:=zkP (fun o=>by rw [e2,G.B.gr,zno]);rw [<-this,e1]
def atS (g:zB) (a b v:Int):Int:=if g.Out=0 then (if a<=g.PC then (if g.PC<=b then v else 0) else 0) else 0
theorem zEV (g:zB):zn3 g=some (atS g 0 1 g.Obj,()):=by
 rw [zwA,zlj];simp only [zo];unfold atS;split
 .split
  .split<;>rfl
  .rfl
 .rfl
def zhn (x:ze):Prop:=x.PC=21\/x.PC=22\/(x.Ret=22/\(x.PC=1\/x.PC=3))
instance (x:ze):Decidable (zhn x):=by unfold zhn;infer_instance
def zcy (a:BitVec 64) (x:ze):BitVec 64:=if zhn x then (a|||Uw x.Buf)|||bit x.Old else a|||Uw x.Buf
def zv0 (s:za):BitVec 64:=s.Ms.foldl zcy ((Zh s).foldl (fun a g=>a|||bit (atS g 0 1 g.Obj)) 0#64)
theorem zq9 {s:za}(hs:X4 s) (h1:s.Ws.length<=100) (h2:s.Ms.length<=100):UQ s=some (zv0 s,()):=by
 rw [ztd,zqA h1 h2,zJA];dsimp only;have hl:(Zh s).length<=200:=by
  unfold Zh;rw [zJN,zKv,zKv];have:=zKN (fun x:zk=>decide (x.PC=6)) s.Ws;have:=zKN (fun x:ze=>decide (x.PC=3\/x.PC=37)) s.Ms;omega
 obtain ⟨e,_⟩:=ZO (f:=XV) (fun j r=>(r,((Zh s).length:Int),j,s,Zh s,())) (fun r=>(r,s,())) (Zh s) (by omega) (fun (a:BitVec 64) g=>a|||bit (atS g 0 1 g.Obj)) (fun _ _=>True) (s:=0#64) trivial
  (fun i r x hx hi hr=>by
   refine ⟨trivial,?_⟩;show XV (r,((Zh s).length:Int),(i:Int),s,Zh s,())=_;rw [zfg,zo,zY,ve,zJA,zKi,hx,zJA,zEV,zJA,zg3,zJA,yH])
  (fun r hr=>by
   show XV (r,((Zh s).length:Int),((Zh s).length:Int),s,Zh s,())=_;rw [zfg,zo,zi])
 rw [e,zJA];dsimp only;obtain ⟨e,_⟩:=ZO (f:=XN) (fun j r=>(r,s.Ms,(s.Ms.length:Int),j,())) (fun r=>(r,())) s.Ms (by omega) zcy (fun _ _=>True) (s:=(Zh s).foldl (fun (a:BitVec 64) g=>a|||bit (atS g 0 1 g.Obj)) 0#64) trivial
  (fun i r x hx hi hr=>by
   refine ⟨trivial,?_⟩;show XN (r,s.Ms,(s.Ms.length:Int),(i:Int),())=_;rw [zeP,zo,zY,yZ hx,zJA,zAT (hs.mu x (zJG hx)).2.1,zJA,yH,zg3,zJA];simp only [zo];unfold zcy;by_cases c1:x.PC=21
   .rw [zb c1,zb (show zhn x from .inl c1)]
   rw [zc c1];by_cases c2:x.PC=22
   .rw [zb c2,zb (show zhn x from .inr (.inl c2))]
   rw [zc c2];by_cases c3:x.Ret=22
   .rw [zb c3];by_cases c4:x.PC=1
    .rw [zb c4,zb (show zhn x from .inr (.inr ⟨c3,.inl c4⟩))]
    rw [zc c4];by_cases c5:x.PC=3
    .rw [zb c5,zb (show zhn x from .inr (.inr ⟨c3,.inr c5⟩))]
    .rw [zc c5,zc (show ¬zhn x by unfold zhn;omega)]
   .rw [zc c3,zc (show ¬zhn x by unfold zhn;omega)])
  (fun r hr=>by
   show XN (r,s.Ms,(s.Ms.length:Int),(s.Ms.length:Int),())=_;rw [zeP,zo,zi])
 rw [e];rfl
instance:DecidableEq zm:=fun a b=>if h:a.Marks=b.Marks/\a.Black=b.Black then isTrue (by cases a;cases b;simp_all) else isFalse (fun e=>h (by rw [e];exact ⟨rfl,rfl⟩))
theorem zsD (a b:zm):((decide (a.Marks=b.Marks))&&(decide (a.Black=b.Black)))=decide (a=b):=by
 rw [Bool.eq_iff_iff];simp only [zJB,decide_eq_true_eq];constructor
 .rintro ⟨h1,h2⟩;cases a;cases b;simp_all
 .intro h;rw [h];exact ⟨rfl,rfl⟩
def uX (t:zm) (o:Int):zm×Bool:=if (shade t o).2=true then (yX (shade t o).1 o,decide (yh (shade t o).1 o=1)) else (t,false)
theorem zB6 (t:zm) (o:Int):zb5 t o=some ((uX t o).1,(uX t o).2,()):=by
 rw [zmS,zky,zJA];unfold uX;dsimp only;cases hs:(shade t o).2 with
 | false=>rw [zc (by simp)];rfl
 | true=>rw [zJQ,cond_false,zit,zb rfl];rfl
def zbs (a b:zm) (o:Int):Option (Int×Int) :=
 if (shade a o).2=true/\(shade a o).1=b then some (1,o) else if yh a o=1/\yX a o=b then some (2,o) else if (uX a o).2=true/\(uX a o).1=b then some (3,o) else none
def wQ (a b:zm):Int×Int:=if a=b then (0,0) else ((List.range 64).findSome? fun i:Nat=>zbs a b ((i:Int)+1)).getD (-1,0)
theorem zy0 (a b:zm) (i:Int) (hi:0<=i/\i<64):zX ud (i,1,i,a,b,())=some (match zbs a b (i+1) with | some r=>.ret (r.1,r.2,()) | none=>.brk (i,a,b,())):=by
 have w1:w64 (i+1)=i+1:=zU;have s1:ud (i,1,i,a,b,())=if (shade a (i+1)).2=true/\(shade a (i+1)).1=b then some (.ret (1,i+1,())) else some (.again (i,2,i,a,b,())):=by
  rw [X8];simp only [zo,zsD,w1];rw [zb (by decide),zc (by decide),zc (by decide),zb trivial,zky,zJA,zU (a:=1+1) (by decide) (by decide)];dsimp only;cases hs:(shade a (i+1)).2 with
  | false=>simp
  | true =>
   rw [cond_true];by_cases e:(shade a (i+1)).1=b
   .rw [zb e,zb ⟨rfl,e⟩]
   .rw [zc e,zc (fun h=>e h.2)];rfl
 have s2:ud (i,2,i,a,b,())=if yh a (i+1)=1/\yX a (i+1)=b then some (.ret (2,i+1,())) else some (.again (i,3,i,a,b,())):=by
  rw [X8];simp only [zo,zsD,w1];rw [zb (by decide),zc (by decide),zb trivial,zit,zJA,zU (a:=2+1) (by decide) (by decide)];dsimp only;rw [zo];by_cases h:yh a (i+1)=1
  .rw [zb h];by_cases e:yX a (i+1)=b
   .rw [zb e,zb ⟨h,e⟩]
   .rw [zc e,zc (fun h=>e h.2)];rfl
  .rw [zc h,zc (fun e=>h e.1)];rfl
 have s3:ud (i,3,i,a,b,())=if (uX a (i+1)).2=true/\(uX a (i+1)).1=b then some (.ret (3,i+1,())) else some (.again (i,4,i,a,b,())):=by
  rw [X8];simp only [zo,zsD,w1];rw [zb (by decide),zb trivial,zB6,zJA,zU (a:=3+1) (by decide) (by decide)];dsimp only;cases hs:(uX a (i+1)).2 with
  | false=>simp
  | true =>
   rw [cond_true];by_cases e:(uX a (i+1)).1=b
   .rw [zb e,zb ⟨rfl,e⟩]
   .rw [zc e,zc (fun h=>e h.2)];rfl
 have s4:ud (i,4,i,a,b,())=some (.brk (i,a,b,())):=by
  rw [X8,zo,zc (by decide)]
 rw [YI];show yK ud (18446744073709551612+1+1+1+1) (i,1,i,a,b,())=_;unfold zbs;rw [yK,s1];by_cases c1:(shade a (i+1)).2=true/\(shade a (i+1)).1=b
 .rw [zb c1,zb c1];rfl
 rw [zc c1,zc c1,zJA];dsimp only;rw [yK,s2];by_cases c2:yh a (i+1)=1/\yX a (i+1)=b
 .rw [zb c2,zb c2];rfl
 rw [zc c2,zc c2,zJA];dsimp only;rw [yK,s3];by_cases c3:(uX a (i+1)).2=true/\(uX a (i+1)).1=b
 .rw [zb c3,zb c3];rfl
 rw [zc c3,zc c3,zJA];dsimp only;rw [yK,s4];rfl
theorem zzK (a b:zm):zhh a b=some ((wQ a b).1,(wQ a b).2,()):=by
 rw [zsO,zsD,zo];unfold wQ;by_cases h:a=b
 .rw [zb h,zb h]
 rw [zc h,zc h];have key:∀(n k:Nat),64-k=n->k<=64->∀m,n<m->yK zc0 m ((k:Int),a,b,())=some (match (List.range' k n).findSome? fun i:Nat=>zbs a b ((i:Int)+1) with | some r=>.ret (r.1,r.2,()) | none=>.brk ()):=by
  intro n
  induction n with
  | zero =>
   intro k hk hk2 m hm;obtain ⟨m,rfl⟩:∃x,m=x+1:=⟨m-1,by omega⟩
   rw [yK,zfp,zo,zi];rfl
  | succ n ih =>
   intro k hk hk2 m hm;obtain ⟨m,rfl⟩:∃x,m=x+1:=⟨m-1,by omega⟩
   rw [yK,zfp,zo,zY,zy0 a b (k:Int) (by omega),zLc,List.findSome?_cons];cases hk3:zbs a b ((k:Int)+1) with
   | some r=>rfl
   | none =>
    have:=ih (k+1) (by omega) (by omega) m (by omega);rw [show ((k+1:Nat):Int)=(k:Int)+1 by omega] at this;rw [zJA];dsimp only;rw [zJA];dsimp only;rw [zU (a:=(k:Int)+1) (by omega) (by omega)];exact this
 have:=key 64 0 rfl (by omega) vv (by have:vv=18446744073709551616:=rfl;omega);rw [YI];refine (congrArg (fun o=>Option.bind o _) this).trans ?_;rw [zJA,zK1];cases (List.range' 0 64).findSome? fun i:Nat=>zbs a b ((i:Int)+1)<;>rfl
theorem zm9 {α:Type}{f:Nat->Option α}{j:Nat}{r:α}:∀ {l:List Nat},j∈l->(∀i∈l,i≠j->f i=none)->f j=some r->l.findSome? f=some r
 | a::l,hj,h,hr=>by
  rw [List.findSome?_cons];by_cases e:a=j
  .rw [e,hr]
  .rw [h a (by simp) e];exact zm9 ((zJT.1 hj).resolve_left (fun h=>e h.symm)) (fun i hi=>h i (zJI _ hi)) hr
theorem zA0 {t:zm}{o:Int}(ho:1<=o/\o<=64) (hm: ¬zI t.Marks o=true) (hb: ¬zI t.Black o=true):shade t o=({t with Marks:=t.Marks|||bit o},true):=by
 unfold shade;rw [zc ((uU ho).2 hm),zb];unfold zI at hb;simpa using hb
theorem zcI {t:zm}{o:Int}(h:(shade t o).2=true):(shade t o).1={t with Marks:=t.Marks|||bit o}/\t.Marks|||bit o≠t.Marks:=by
 unfold shade at h ⊢;split
 .rename_i e;rw [zb e] at h;cases h
 .rename_i e;rw [zc e] at h;split
  .exact ⟨rfl,e⟩
  .rename_i e2;rw [zc e2] at h;cases h
theorem zBL {m:BitVec 64}{o q:Int}(hq: ¬(m|||bit q=m)) (h:m|||bit o=m|||bit q):o=q:=by
 have hqr:1<=q/\q<=64:=by
  rcases Classical.em (1<=q/\q<=64) with h | h
  .exact h
  .exact absurd (by unfold bit;rw [zc h,BitVec.or_zero]) hq
 have hor:1<=o/\o<=64:=by
  rcases Classical.em (1<=o/\o<=64) with h2 | h2
  .exact h2
  .exact absurd (by rw [<-h];unfold bit;rw [zc h2,BitVec.or_zero]) hq
 have a:zI (m|||bit o) q=true:=by rw [h,yN _ hqr];exact .inr rfl
 rw [yN _ hor] at a;rcases a with a | a
 .exact absurd a ((uU hqr).1 hq)
 .exact a.symm
theorem ztw {t:zm}{o:Int}(h:(uX t o).2=true):(uX t o).1.Black≠t.Black/\(uX t o).1.Marks≠t.Marks:=by
 unfold uX at h ⊢;by_cases hs:(shade t o).2=true
 .rw [zb hs] at h ⊢;obtain ⟨e,hne⟩:=zcI hs;have h1:yh (shade t o).1 o=1:=by simpa using h
  have hr:1<=o/\o<=64:=by
   rcases Classical.em (1<=o/\o<=64) with h | h
   .exact h
   .exact absurd (by unfold bit;rw [zc h,BitVec.or_zero]) hne
  have hb:=((wY _ _).1 h1).2;dsimp only;unfold yX;rw [zb h1];rw [e] at hb ⊢;exact ⟨(uU hr).2 hb,hne⟩
 .rw [zc hs] at h;cases h
theorem zrA (t:zm):wQ t t=(0,0):=by unfold wQ;rw [zb rfl]
theorem zyW {t:zm}{o:Int}(ho:1<=o/\o<=64) (hm: ¬zI t.Marks o=true) (hb: ¬zI t.Black o=true):wQ t {t with Marks:=t.Marks|||bit o}=(1,o):=by
 have hne:=(uU ho).2 hm;have hs:=zA0 ho hm hb;unfold wQ;rw [zc (fun e=>hne (congrArg zm.Marks e).symm)];have hf:((List.range 64).findSome? fun i:Nat=>zbs t ({t with Marks:=t.Marks|||bit o}) ((i:Int)+1))=some (1,o):=by
  refine zm9 (j:=(o-1).toNat) (zJ1.2 (by omega)) (fun i _ hi=>?_) ?_
  .unfold zbs;rw [zc,zc,zc]
   .rintro ⟨a,b⟩;exact (ztw a).1 (by rw [b])
   .rintro ⟨a,b⟩;have:=congrArg zm.Marks b;unfold yX at this;rw [zb a] at this;exact hne this.symm
   .rintro ⟨a,b⟩;obtain ⟨c,d⟩:=zcI a;rw [c] at b;have:=zBL hne (congrArg zm.Marks b);omega
  .rw [show (((o-1).toNat:Nat):Int)+1=o by omega];unfold zbs;rw [zb ⟨by rw [hs],by rw [hs]⟩]
 rw [hf];rfl
theorem zAP {t:zm}{o:Int}(h:yh t o=1) (ho:1<=o/\o<=64):wQ t {t with Black:=t.Black|||bit o}=(2,o):=by
 have hb:=((wY _ _).1 h).2;have hne:=(uU ho).2 hb;unfold wQ;rw [zc (fun e=>hne (congrArg zm.Black e).symm)];have hf:((List.range 64).findSome? fun i:Nat=>zbs t ({t with Black:=t.Black|||bit o}) ((i:Int)+1))=some (2,o):=by
  refine zm9 (j:=(o-1).toNat) (zJ1.2 (by omega)) (fun i _ hi=>?_) ?_
  .unfold zbs;rw [zc,zc,zc]
   .rintro ⟨a,b⟩;exact (ztw a).2 (by rw [b])
   .rintro ⟨a,b⟩;have:=congrArg zm.Black b;unfold yX at this;rw [zb a] at this;have:=zBL hne this;omega
   .rintro ⟨a,b⟩;obtain ⟨c,d⟩:=zcI a;rw [c] at b;exact d (congrArg zm.Marks b)
  .rw [show (((o-1).toNat:Nat):Int)+1=o by omega];unfold zbs;rw [zc,zb]
   .refine ⟨h,?_⟩;unfold yX;rw [zb h]
   .rintro ⟨a,b⟩;obtain ⟨c,d⟩:=zcI a;rw [c] at b;exact d (congrArg zm.Marks b)
 rw [hf];rfl
theorem zCM {l:List Int}{v:Int}(hv:1<=v/\v<=64):∀(a:BitVec 64),zI a v=true\/v∈l->zI (l.foldl (fun s o=>s|||bit o) a) v=true:=by
 induction l with
 | nil=>rintro a (h | h);exact h;cases h
 | cons x l ih =>
  rintro a h;refine ih _ ?_;rw [xQ];rcases h with h | h
  .exact .inl (.inl h)
  .rcases zJT.1 h with rfl | h
   .exact .inl (.inr ((yN 0#64 hv v).2 (.inr rfl) |> fun h=>by simpa using h))
   .exact .inr h
theorem zyk {v:Int}(hv:1<=v/\v<=64):∀(L:List (List Int)) (a:BitVec 64),(zI a v=true\/∃r∈L,v∈r)->zI (L.foldl (fun s l=>s|||Uw l) a) v=true
 | [],a,h=>by
  rcases h with h | ⟨r,h,_⟩
  .exact h
  .cases h
 | r::L,a,h=>by
  refine zyk hv L _ ?_;rw [xQ];rcases h with h | ⟨q,h,hq⟩
  .exact .inl (.inl h)
  .rcases zJT.1 h with rfl | h
   .exact .inl (.inr (zCM hv _ (.inr hq)))
   .exact .inr ⟨q,h,hq⟩
def LvH (p:zd) (h:zq) (o:Int):Prop:=Reach p.H (uV p) o\/((p.H.Objs.length:Int)<o/\o<=(h.Objs.length:Int))
def VE (p:zd) (h:zq):Prop:=∀o v,LvH p h o->v∈zF h o->v=0\/LvH p h v
def XR (p:zd) (h:zq) (r:List Int):Prop:=∀v∈r,v=0\/LvH p h v
theorem LvH.mono {p:zd}{h h':zq}(hl:h.Objs.length<=h'.Objs.length) {o:Int}(L:LvH p h o):LvH p h' o:=by
 rcases L with L | L
 .exact .inl L
 .exact .inr (by omega)
theorem LvH.inn {p:zd}{h:zq}(hn:(p.H.Objs.length:Int)<=(h.Objs.length:Int)) {o:Int}(L:LvH p h o):1<=o/\o<=(h.Objs.length:Int):=by
 rcases L with L | L
 .have:=L.in;omega
 .omega
theorem XR.mono {p:zd}{h h':zq}(hl:h.Objs.length<=h'.Objs.length) {r:List Int}(R:XR p h r):XR p h' r:=fun v hv=>(R v hv).imp id (fun L=>L.mono hl)
theorem XR.set {p:zd}{h:zq}{r:List Int}(R:XR p h r) {v:Int}(hv:v=0\/LvH p h v) (i:Nat):XR p h (r.set i v):=fun u hu=>by
 rcases zKn hu with h | rfl
 .exact R u h
 .exact hv
theorem XR.reg {p:zd}{h:zq}{x:ze}(R:XR p h x.Regs) (r:Int):wC x r=0\/LvH p h (wC x r):=by
 unfold wC;rw [zJD];cases hx:x.Regs[r.toNat]? with
 | none=>exact .inl rfl
 | some v=>exact R v (zJG hx)
theorem zku {p:zd}{h:zq}(C:VE p h) {a:Int}(ha:a=0\/LvH p h a) (i:Int):zN h a i=0\/LvH p h (zN h a i):=by
 unfold zN;split
 .rename_i hs;simp only [yj,zJB,decide_eq_true_eq] at hs;have L:LvH p h a:=ha.resolve_left (by omega);rw [zJD];cases hx:(zF h a)[i.toNat]? with
  | none=>exact .inl rfl
  | some v=>exact C a v L (zJG hx)
 .exact .inl rfl
theorem zDw {p:zd}{h:zq}(C:VE p h) {a i v:Int}(hv:v=0\/LvH p h v):VE p (xr h a i v):=by
 intro o w L hw;have hl:=VA h a i v;have L':LvH p h o:=L.mono (by omega);have up:∀ {u:Int},(u=0\/LvH p h u)->(u=0\/LvH p (xr h a i v) u):=fun hu=>hu.imp id (fun L=>L.mono (by omega));unfold xr at hw;split at hw
 .rename_i hs;obtain ⟨hs,_⟩:=hs;simp only [yj,zJB,decide_eq_true_eq] at hs;have hw:w∈(h.Objs.set (a-1).toNat ((zF h a).set i.toNat v)).getD (o-1).toNat []:=hw;rw [zt0 (by omega)] at hw;split at hw
  .rename_i e;have es:zF h a=zF h o:=by unfold zF;rw [e]
   rcases zKn hw with h1 | rfl
   .exact up (C o w L' (es▸h1))
   .exact up hv
  .exact up (C o w L' hw)
 .exact up (C o w L' hw)
theorem zBe {p:zd}{h:zq}(hn:(p.H.Objs.length:Int)<=(h.Objs.length:Int)) (C:VE p h):VE p (yB h):=by
 intro o w L hw;have hl:=ZT h;have hin:=L.inn (by omega);by_cases ho:o<=(h.Objs.length:Int)
 .have L':LvH p h o:=by
   rcases L with L | L
   .exact .inl L
   .exact .inr (by omega)
  have e:zF (yB h) o=zF h o:=by
   unfold zF yB;rw [zJD,zJD,zJ4 (by omega)]
  rw [e] at hw;exact (C o w L' hw).imp id (fun L=>L.mono (by omega))
 .have e:zF (yB h) o=List.replicate h.Slots.toNat 0:=by
   unfold zF yB;rw [zJD,zJ9 (by omega),show (o-1).toNat-h.Objs.length=0 by omega];rfl
  rw [e] at hw;exact .inl (zLp hw)
structure RgI (p:zd) (s:za):Prop where
 hp:VE p s.H
 rg:∀x∈s.Ms,XR p s.H x.Regs
theorem zH7 {p:zd}{s:za}{m:Int}{x:ze}(hN:(p.H.Objs.length:Int)<=(s.H.Objs.length:Int)) (h9:s.H.Objs.length<1000000) (C:VE p s.H) (R:XR p s.H x.Regs) :
  VE p (zp s m x).1.H/\XR p (zp s m x).1.H (zp s m x).2.Regs/\s.H.Objs.length<=(zp s m x).1.H.Objs.length:=by
 have same:∀ {t:za}{y:ze},t.H=s.H->y.Regs=x.Regs->VE p t.H/\XR p t.H y.Regs/\s.H.Objs.length<=t.H.Objs.length:=fun e1 e2=>by rw [e1,e2];exact ⟨C,R,zJF _⟩
 refine xG (motive:=fun r=>VE p r.1.H/\XR p r.1.H r.2.Regs/\s.H.Objs.length<=r.1.H.Objs.length) s m x ?_ ?_ ?_ ?_ ?_ ?_ ?_ ?_ ?_ ?_ ?_ ?_ ?_ ?_ ?_ ?_ ?_ ?_ ?_ ?_
 .intro c;unfold mu0 UU;split
  .exact same rfl rfl
  split
  .exact same rfl rfl
  split
  .exact same rfl rfl
  split
  .exact same rfl rfl
  split
  .exact same rfl rfl
  split
  .exact ⟨C,R.set (R.reg _) _,zJF _⟩
  .exact ⟨C,R.set (.inl rfl) _,zJF _⟩
 .intro c;unfold mu1;split<;>exact same rfl rfl
 .intro c;unfold mu2;exact same rfl rfl
 .intro c;unfold mu3;refine same (by rw [vF]) ?_;dsimp only;split<;>rfl
 .intro c;unfold zi8;exact ⟨C,R.set (zku C (R.reg _) _) _,zJF _⟩
 .intro c;unfold zfQ;refine same rfl ?_;dsimp only;split<;>rfl
 .intro c;unfold zfW;refine same rfl ?_;dsimp only;split<;>rfl
 .intro c;unfold zfq;refine same rfl ?_;dsimp only;split<;>rfl
 .intro c;unfold zgT;have hl:=VA s.H (wC x (opM s.P m x).A) (opM s.P m x).S (wC x (opM s.P m x).R);exact ⟨zDw C (R.reg _),R.mono (by dsimp only;omega),by dsimp only;omega⟩
 .intro c;unfold Uo;split
  .split
   .have hl:=ZT s.H;have w:wc ((s.H.Objs.length:Int)+1)=(s.H.Objs.length:Int)+1:=yT;refine ⟨zBe hN C,?_,by dsimp only;omega⟩;refine XR.set (R.mono (by dsimp only;omega)) (.inr (.inr ?_)) _;rw [w];exact ⟨by omega,by dsimp only;omega⟩
   .exact same rfl rfl
  .exact same rfl rfl
 .intro c;unfold zeN;refine same rfl ?_;dsimp only;split<;>rfl
 .intro c;unfold zeZ;refine same rfl ?_;dsimp only;repeat' split
  all_goals rfl
 .intro c;unfold zjw;exact same rfl rfl
 .intro c;unfold zfe;refine same rfl ?_;dsimp only;split<;>rfl
 .intro c;unfold zeK;refine same rfl ?_;dsimp only;split<;>rfl
 .intro c;unfold zeM;refine same rfl ?_;dsimp only;split<;>rfl
 .intro c;unfold zaI;refine same (by rw [vF]) ?_;dsimp only;split<;>rfl
 .intro c;unfold zgj;exact same rfl rfl
 .intro c;unfold zlh;exact same rfl rfl
 .exact same rfl rfl
theorem zFh {p:zd}(hp:zD p) {s:za}{m:Int}{x:ze}(hn:HOk p s.H) (C:VE p s.H) (R:XR p s.H x.Regs) :
  VE p (zp s m x).1.H/\XR p (zp s m x).1.H (zp s m x).2.Regs/\s.H.Objs.length<=(zp s m x).1.H.Objs.length:=by
 have hN:=hn.n;have hM:=hp.most;have hn6:=hp.n;exact zH7 hN.1 (by omega) C R
theorem RgI.step {p:zd}{nb:Nat}(hp:zD p) {s:za}(E:EOk p nb s) (I:RgI p s) (m:Int):RgI p (zH s m):=by
 unfold zH;split
 .exact I
 cases hx:s.Ms[(m-1).toNat]? with
 | none=>exact I
 | some x =>
  obtain ⟨h1,h2,h3⟩:=zFh (m:=m) hp E.H I.hp (I.rg x (zJG hx));refine ⟨h1,fun y hy=>?_⟩;rcases zKn hy with hy | rfl
  .exact (I.rg y hy).mono h3
  .exact h2
theorem zIv {p:zd}(hp:zD p):RgI p (xl p):=by
 have hn:=hp.n;refine ⟨fun o v L hv=>?_,fun x hx v hv=>?_⟩
 .by_cases h0:v=0
  .exact .inl h0
  refine .inr (.inl ?_);rcases L with L | L
  .have r:=L;have ho:=r.in;have hm:zF p.H o∈p.H.Objs:=by
    unfold zF;rw [zJD,zJC (show (o-1).toNat<p.H.Objs.length by omega)];exact zJY _
   have:=(hp.objs _ hm).2 v hv;exact .step o v r hv (by omega)
  .have:o<=(p.H.Objs.length:Int):=L.2;omega
 .have hx:x∈p.Regs.map wR:=hx;obtain ⟨r,hr,rfl⟩:=zJO.1 hx;have hv:v∈r:=hv;have:=(hp.reg r hr).2 v hv;by_cases h0:v=0
  .exact .inl h0
  exact .inr (.inl (.root v (zyk (by omega) _ _ (.inr ⟨r,hr,hv⟩)) (by omega)))
def QL (p:zd) (h:zq) (v:Int):Prop:=v=0\/LvH p h v
theorem QL.mono {p:zd}{h h':zq}(hl:h.Objs.length<=h'.Objs.length) {v:Int}(q:QL p h v):QL p h' v:=q.imp id (fun L=>L.mono hl)
structure BN (p:zd) (s:za):Prop where
 rg:RgI p s
 mkd:∀o,zI s.T.Marks o=true->LvH p s.H o
 gw:∀x∈s.Ws,x.PC=6->QL p s.H x.G.Obj
 bq:∀x∈s.Ms,zq0 (QL p s.H) x
theorem zq0.mono {Q Q':Int->Prop}(h:∀v,Q v->Q' v) {x:ze}(b:zq0 Q x):zq0 Q' x:=⟨fun v hv=>h v (b.1 v hv),h _ b.2.1,fun e=>h _ (b.2.2 e)⟩
theorem BN.same {p:zd}{s s':za}(B:BN p s) (eH:s'.H=s.H) (eT:s'.T=s.T) (eW:s'.Ws=s.Ws) (eX:s'.Ms=s.Ms):BN p s' :=
 ⟨⟨by rw [eH];exact B.rg.hp,by rw [eH,eX];exact B.rg.rg⟩,by rw [eH,eT];exact B.mkd,by rw [eH,eW];exact B.gw,by rw [eH,eX];exact B.bq⟩
theorem BN.held {p:zd}{nb k:Nat}{s:za}{gh:Gh}(B:BN p s) (G:FG p nb k s gh) {o:Int}(h:o∈vG p s gh):LvH p s.H o:=B.mkd o ((wY _ _).1 ((G.B.gr o).1 h)).1
theorem zyN {s:za}{x:zk}(h:x.PC=5\/x.PC=6\/x.PC=8):x.Obj∈zW s x:=by
 unfold zW Ua;refine zJ7 _ ?_;rw [zi,zi];by_cases h6:x.PC=6
 .rw [zi,zb h6];simp
 .rw [zY];simp
theorem zrL {s:za}{x:ze}(h:x.PC=36\/x.PC=37\/x.PC=38):x.Obj∈z8 s x:=by
 unfold z8 zbU;refine zJ7 _ ?_;rw [zi];by_cases h6:x.PC=37
 .rw [zi,zb h6];simp
 .rw [zY];simp
theorem zEO {p:zd}{h:zq}{m:BitVec 64}{o:Int}(hm:∀q,zI m q=true->LvH p h q) (ho:LvH p h o):∀q,zI (m|||bit o) q=true->LvH p h q:=fun q hq=>(WM hq).elim (hm q) (fun e=>e▸ho)
theorem BN.worker {p:zd}(hp:zD p) {nb k:Nat}{s:za}{gh:Gh}(hk:k<4294960000) (B:BN p s) (G:FG p nb k s gh) {w:Int}(hw:1<=w/\w<=p.Workers) (hd:s.Done=false):BN p (zK s w):=by
 obtain ⟨gh',G',_,x,hx,N,C,_,hT⟩:=G.worker hp hk hw hd;have hwl:=G.E.wl;have hm:=zJG hx;have hf:=zdO G.E w;have eH:(zK s w).H=s.H:=by rw [hf]
 have eX:(zK s w).Ms=s.Ms:=by rw [hf]
 have e0: ¬(s.Done=true\/w<1\/(s.Ws.length:Int)<w):=by rw [hd];rintro (e | e | e)<;>first | cases e | omega
 have es:zK s w={(zu s w x).1 with Ws:=s.Ws.set (w-1).toNat (zu s w x).2}:=by unfold zK;rw [zc e0,hx]
 have eT:(zK s w).T=(zu s w x).1.T:=by rw [es]
 have eW:(zK s w).Ws=s.Ws.set (w-1).toNat (zu s w x).2:=by rw [es]
 have hi:=(zJK.1 hx).1;refine ⟨⟨by rw [eH];exact B.rg.hp,by rw [eH,eX];exact B.rg.rg⟩,?_,?_,by rw [eH,eX];exact B.bq⟩
 .rw [eH,eT];rcases hT with ⟨_,_,t⟩ | ⟨_,_,h6,_,t⟩ | ⟨_,_,_,t⟩
  .rw [t];exact B.mkd
  .rw [t];have hob:=((G.W _ x hx).p6 h6).1.ob;exact zEO B.mkd ((B.gw x hm h6).resolve_left (by omega))
  .rw [t,(zkJ s.T x.Obj).1];exact B.mkd
 .rw [eH,eW];intro y hy h6;rcases zKn hy with hy | rfl
  .exact B.gw y hy h6
  .rcases zBg s w x h6 with ⟨a,b⟩ | ⟨a,b⟩
   .rw [b];exact B.gw x hm a
   .rw [b];exact zku B.rg.hp (.inr (B.held G (zo4 hx (zyN (.inl a))))) _
theorem BN.mutator {p:zd}(hp:zD p) {nb k:Nat}{s:za}{gh:Gh}(hk:k<4294960000) (B:BN p s) (G:FG p nb k s gh) {m:Int}(hm:1<=m/\m<=p.Mutators) (hd:s.Done=false):BN p (zH s m):=by
 obtain ⟨gh',G',F,x,hx,N,C,_,hT⟩:=G.mutator hp hk hm hd;have hml:=G.E.ml;have hmem:=zJG hx;have hX:=G.E.X _ x hx;have e0: ¬(s.Done=true\/m<1\/(s.Ms.length:Int)<m):=by rw [hd];rintro (e | e | e)<;>first | cases e | omega
 have es:zH s m={(zp s m x).1 with Ms:=s.Ms.set (m-1).toNat (zp s m x).2}:=by unfold zH;rw [zc e0,hx]
 have hR:=B.rg.step hp G.E m;have hrg:=zFh (m:=m) hp G.E.H B.rg.hp (B.rg.rg x hmem);have eW:(zH s m).Ws=s.Ws:=by rw [es];show (zp s m x).1.Ws=_;rw [znt]
 have eT:(zH s m).T=(zp s m x).1.T:=by rw [es]
 have eH:(zH s m).H=(zp s m x).1.H:=by rw [es]
 have eM:(zH s m).Ms=s.Ms.set (m-1).toNat (zp s m x).2:=by rw [es]
 have up:∀ {v:Int},LvH p s.H v->LvH p (zp s m x).1.H v:=fun L=>L.mono hrg.2.2;have uq:∀v,QL p s.H v->QL p (zp s m x).1.H v:=fun v q=>q.mono hrg.2.2;refine ⟨hR,?_,?_,?_⟩
 .rw [eH,eT];rcases hT with ⟨_,_,t⟩ | ⟨_,_,h3,_,t⟩ | ⟨_,_,_,t⟩ | ⟨_,_,_,_,t3,t4⟩
  .rw [t];exact fun o ho=>up (B.mkd o ho)
  .rw [t];have hob:1<=x.G.Obj:=by
    rcases h3 with h | h
    .exact ((G.M _ x hx).p3 h).1.ob.1
    .exact ((G.M _ x hx).p37 h).1.ob.1
   exact zEO (fun o ho=>up (B.mkd o ho)) (up (((B.bq x hmem).2.2 h3).resolve_left (by omega)))
  .rw [t,(zkJ s.T x.Obj).1];exact fun o ho=>up (B.mkd o ho)
  .intro o ho;have hF:=(G.tints F).1;have hle:=hF o (by rw [eT];exact ho);rw [eH] at hle;by_cases hl:o<=(p.H.Objs.length:Int)
   .rw [t4] at ho;have hN:=G.E.H.n;have hM0:=hp.most;have hn6:=hp.n;have nm: ¬zI s.T.Marks ((s.H.Objs.length:Int)+1)=true:=fun e=>by have:=G.mrk _ e;omega
    have nb': ¬zI s.T.Black ((s.H.Objs.length:Int)+1)=true:=fun e=>nm (G.B.blk _ e);rw [yT,zd5 (by omega) nm nb'] at ho;rcases WM ho with ho | rfl
    .exact up (B.mkd o ho)
    .omega
   .exact .inr ⟨by omega,hle⟩
 .rw [eH,eW];exact fun y hy h6=>uq _ (B.gw y hy h6)
 .rw [eH,eM];intro y hy;have em:(((m-1).toNat:Nat):Int)+1=m:=by omega
  rw [em] at hX;rcases zKn hy with hy | rfl
  .exact (B.bq y hy).mono uq
  .refine (zz8 (s:=s) (m:=m) hX (Q:=QL p s.H) (.inl rfl) (fun r i=>zku B.rg.hp ((B.rg.rg x hmem).reg r) i) (fun c=>?_) (B.bq x hmem)).mono uq;exact zku B.rg.hp (.inr (B.held G (zoW hx (zrL (.inl c))))) _
theorem BN.next {p:zd}(hp:zD p) {nb k:Nat}{s:za}{gh:Gh}(hk:k<4294960000) (B:BN p s) (G:FG p nb k s gh) (j:Int):BN p (Yi s j):=by
 cases hd:s.Done with
 | true=>rw [zh4 hd];exact B
 | false =>
  have hwl:=G.E.wl;have hml:=G.E.ml;unfold Yi;split
  .have hf:=zir s;exact B.same (by conv=>rhs;rw [<-hf]) (by conv=>rhs;rw [<-hf]) (by conv=>rhs;rw [<-hf]) (by conv=>rhs;rw [<-hf])
  split
  .by_cases h1:1<=j
   .exact B.worker hp hk G (by omega) hd
   .have:zK s j=s:=by unfold zK;rw [zb (.inr (.inl (by omega)))]
    rw [this];exact B
  .by_cases h1:1<=j-(s.Ws.length:Int)/\j-(s.Ws.length:Int)<=(s.Ms.length:Int)
   .exact B.mutator hp hk G (by omega) hd
   .have:zH s (j-(s.Ws.length:Int))=s:=by unfold zH;rw [zY]
    rw [this];exact B
theorem zIr {p:zd}(h:zD p):BN p (xl p):=by
 have hn:=h.n;refine ⟨zIv h,fun o ho=>.inl (.root o ho ?_),fun x hx h6=>?_,fun x hx=>?_⟩
 .have hr:=(xp _ _).1 ho;exact ⟨hr.1,(zFI h).mrk o ho⟩
 .obtain ⟨j,_,rfl⟩:=zJO.1 (show x∈(List.range p.Workers.toNat).map (vX p) from hx);exact absurd h6 (by show ¬(0:Int)=6;decide)
 .obtain ⟨r,_,rfl⟩:=zJO.1 (show x∈p.Regs.map wR from hx);exact ⟨fun v hv=>(by cases hv),.inl rfl,fun e=>absurd e (by show ¬((0:Int)=3\/(0:Int)=37);decide)⟩
def zzF (p:zd):BitVec 64:=zsr p.H (uV p)
theorem zD.heap9 {p:zd}(h:zD p):p.H.Objs.length<=9/\∀l∈p.H.Objs,l.length<1000000:=by
 have:=h.n;have:=h.slots;exact ⟨by omega,fun l hl=>by have:=(h.objs l hl).1;omega⟩
theorem zxZ {p:zd}(h:zD p):zhv p=some (zzF p,()):=by
 have hr:=h.regs;have hm:=h.mt;rw [zw7,zwm (by omega) (fun r hr=>by have:=(h.reg r hr).1;omega),zJA,zu8 h.heap9.1 h.heap9.2];rfl
theorem zA9 {p:zd}(h:zD p) (o:Int):zI (zzF p) o=true↔Reach p.H (uV p) o:=zyI h.heap9.1 h.heap9.2 _ o
theorem zCS {h:zq}(hv:∀l∈h.Objs,∀v∈l,0<=v/\v<=(h.Objs.length:Int)) {o i:Int}(hne:zN h o i≠0):zN h o i∈zF h o/\1<=zN h o i/\zN h o i<=(h.Objs.length:Int):=by
 unfold zN at hne ⊢;split
 .rename_i hs;rw [zb hs] at hne;unfold yj at hs;simp only [zJB,decide_eq_true_eq] at hs;obtain ⟨⟨⟨h1,h2⟩,h3⟩,h4⟩:=hs;have eo:=zJC (show (o-1).toNat<h.Objs.length by omega);have es:zF h o=h.Objs[(o-1).toNat]'(by omega):=by unfold zF;rw [zJD,eo];rfl
  have ei:=zJC (show i.toNat<(zF h o).length by omega);have eg:(zF h o).getD i.toNat 0=(zF h o)[i.toNat]'(by omega):=by rw [zJD,ei];rfl
  rw [eg] at hne ⊢;have hm:(zF h o)[i.toNat]'(by omega)∈zF h o:=zJY _;have:=hv _ (by rw [es];exact zJY _) _ hm;exact ⟨hm,by omega,this.2⟩
 .rename_i hs;rw [zc hs] at hne;exact absurd rfl hne
def zk5 (x:zk) (u j:Int):Prop:=(x.PC=5\/x.PC=6\/x.PC=8)->x.Obj=u->x.Slot<=j
def zus (x:ze) (u j:Int):Prop:=(x.PC=36\/x.PC=37\/x.PC=38)->x.Obj=u->x.Slot<=j
def US (s:za) (u j:Int):Prop:=(∀(i:Nat) x,s.Ws[i]? =some x->zk5 x u j)/\(∀(i:Nat) x,s.Ms[i]? =some x->zus x u j)
def zzX (g:zB) (o:Int):Prop:=g.Out=0/\(g.PC=0\/g.PC=1)/\g.Obj=o
def zmZ (x:zk) (o:Int):Prop:=x.PC=6/\zzX x.G o
def zp1 (x:ze) (o:Int):Prop:=o∈x.Buf\/((x.PC=22\/((x.PC=1\/x.PC=3)/\x.Ret=22))/\x.Old=o)\/((x.PC=3\/x.PC=37)/\zzX x.G o)
def zlE (s:za) (o:Int):Prop:=(∃(i:Nat) (x:zk),s.Ws[i]? =some x/\zmZ x o)\/(∃(i:Nat) (x:ze),s.Ms[i]? =some x/\zp1 x o)
inductive zpY (s:za) (W:Int->Int->Prop):Int->Prop
 | pend (o:Int) (h:zlE s o):zpY s W o
 | white (u j o:Int) (hW: ¬W u j) (hj:yj s.H u j=true) (he:zN s.H u j=o) (hu: ¬zI s.T.Marks u=true) (hp:zpY s W u):zpY s W o
 | grey (u j o:Int) (hW: ¬W u j) (hj:yj s.H u j=true) (he:zN s.H u j=o) (hg:yh s.T u=1) (hs:US s u j):zpY s W o
structure zuP (s s':za) (W W':Int->Int->Prop):Prop where
 mono:∀o,zI s.T.Marks o=true->zI s'.T.Marks o=true
 hp:∀o,zlE s o->zI s'.T.Marks o=true\/zlE s' o
 he:∀u j,¬W u j->yj s.H u j=true->(¬W' u j/\yj s'.H u j=true/\zN s'.H u j=zN s.H u j)\/(zN s.H u j=0\/zI s'.T.Marks (zN s.H u j)=true\/zlE s' (zN s.H u j))
 hg:∀u j,¬W u j->yj s.H u j=true->yh s.T u=1->US s u j->(yh s'.T u=1/\US s' u j)\/(zN s.H u j=0\/zI s'.T.Marks (zN s.H u j)=true\/zlE s' (zN s.H u j))
 hn:∀u j,¬W u j->yj s.H u j=true->¬zI s.T.Marks u=true->zI s'.T.Marks u=true->yh s'.T u=1/\US s' u j
theorem Yf {h:zq}{u j:Int}(e:yj h u j=true):(1<=u/\u<=(h.Objs.length:Int))/\0<=j/\j<((zF h u).length:Int):=by
 unfold yj at e;simp only [zJB,decide_eq_true_eq] at e;exact ⟨⟨e.1.1.1,e.1.1.2⟩,e.1.2,e.2⟩
theorem zuP.prot {s s':za}{W W':Int->Int->Prop}(P:zuP s s' W W') {o:Int}(h:zpY s W o):o≠0->zI s'.T.Marks o=true\/zpY s' W' o:=by
 have cov:∀v:Int,v≠0->(v=0\/zI s'.T.Marks v=true\/zlE s' v)->zI s'.T.Marks v=true\/zpY s' W' v:=by
  rintro v h0 (e | e | e)
  .exact absurd e h0
  .exact .inl e
  .exact .inr (.pend v e)
 induction h with
 | pend o h=>exact fun _=>(P.hp o h).imp id (fun h=>.pend o h)
 | white u j o hW hj he hu hp ih =>
  intro h0;subst he;have hu0:u≠0:=by have:=Yf hj;omega
  rcases P.he u j hW hj with ⟨a,b,c⟩ | c
  .by_cases hm:zI s'.T.Marks u=true
   .obtain ⟨d,e⟩:=P.hn u j hW hj hu hm;exact .inr (.grey u j _ a b c d e)
   .rcases ih hu0 with h | h
    .exact absurd h hm
    .exact .inr (.white u j _ a b c hm h)
  .exact cov _ h0 c
 | grey u j o hW hj he hg hs =>
  intro h0;subst he;rcases P.he u j hW hj with ⟨a,b,c⟩ | c
  .rcases P.hg u j hW hj hg hs with ⟨d,e⟩ | c2
   .exact .inr (.grey u j _ a b c d e)
   .exact cov _ h0 c2
  .exact cov _ h0 c
def zqh (n:Int) (x:zk):Prop:=(x.PC=5->0<=x.Slot/\x.Slot<n)/\(x.PC=6->1<=x.Slot/\x.Slot<=n)/\(x.PC=8->x.Slot=n)
def zu6 (n:Int) (x:ze):Prop:=(x.PC=36->0<=x.Slot/\x.Slot<n)/\(x.PC=37->1<=x.Slot/\x.Slot<=n)/\(x.PC=38->x.Slot=n)
def zrK (p:zd) (s:za) (W:Int->Int->Prop) (m:Int) (x:ze):Prop :=
 ¬W (wC x (opM p m x).A) (opM p m x).S->((x.PC=21\/x.PC=22\/((x.PC=1\/x.PC=3)/\x.Ret=22))->x.Old=zN s.H (wC x (opM p m x).A) (opM p m x).S) /\
  (x.PC=23->zN s.H (wC x (opM p m x).A) (opM p m x).S=0\/zI s.T.Marks (zN s.H (wC x (opM p m x).A) (opM p m x).S)=true\/zN s.H (wC x (opM p m x).A) (opM p m x).S∈x.Buf)
structure PI (p:zd) (s:za) (W:Int->Int->Prop):Prop where
 lv:∀o,Reach p.H (uV p) o->zI s.T.Marks o=true\/zpY s W o
 sw:∀(i:Nat) x,s.Ws[i]? =some x->zqh p.H.Slots x
 sx:∀(i:Nat) x,s.Ms[i]? =some x->zu6 p.H.Slots x
 cv:∀(i:Nat) x,s.Ms[i]? =some x->zrK p s W ((i:Int)+1) x
theorem ztZ {s:za}{g:zB}{o:Int}(hmd:1<=g.Mode/\g.Mode<=3) (ho:1<=o/\o<=64) (hb:zI s.T.Black o=true->zI s.T.Marks o=true) (a:zzX g o) :
  zzX (zy s g).2 o\/zI (zy s g).1.T.Marks o=true:=by
 obtain ⟨h1,h2,h3⟩:=a;unfold zy;rw [zi,zi,zi,zi,zi,zi,zi];split
 .right;show zI (shade s.T g.Obj).1.Marks o=true;rw [h3];unfold shade;split
  .rename_i e;exact Decidable.byContradiction fun hc=>((uU ho).2 hc) e
  split
  .exact (yN _ ho o).2 (.inr rfl)
  .rename_i e;exact hb (by unfold zI;simpa using e)
 .left;exact ⟨h1,.inr rfl,h3⟩
theorem zH0 {h:zq}{a i v u j:Int}(hne: ¬(u=a/\j=i)) (hi:yj h a i=true->0<=i):yj (xr h a i v) u j=yj h u j/\zN (xr h a i v) u j=zN h u j:=by
 have hl:=VA h a i v;by_cases hc:yj h a i=true/\0<=v/\v<=(h.Objs.length:Int)
 .have hs:=Yf hc.1;have e0:xr h a i v={h with Objs:=h.Objs.set (a-1).toNat ((zF h a).set i.toNat v)}:=by unfold xr;rw [zb hc]
  have es:1<=u->zF (xr h a i v) u=if u=a then (zF h a).set i.toNat v else zF h u:=fun hu=>by
   rw [e0];unfold zF;rw [zt0 (by omega)];by_cases e:u=a
   .rw [zY,zb e]
   .rw [zi,zc e]
  have eh:yj (xr h a i v) u j=yj h u j:=by
   unfold yj;rw [hl];by_cases hu:1<=u
   .rw [es hu];by_cases e:u=a
    .rw [zb e,zJ6,e]
    .rw [zc e]
   .simp [hu]
  refine ⟨eh,?_⟩;unfold zN;rw [eh];split
  .rename_i hj;have hp:=Yf hj;rw [es hp.1.1];by_cases e:u=a
   .rw [zb e,zt0 (by omega),zc (by
     intro e2;exact hne ⟨e,by omega⟩),e]
   .rw [zc e]
  .rfl
 .have e0:xr h a i v=h:=by unfold xr;rw [zc hc]
  rw [e0];exact ⟨rfl,rfl⟩
theorem zFG (h:zq) (u j:Int):(yj h u j=true->yj (yB h) u j=true)/\zN (yB h) u j=zN h u j:=by
 have hl:=ZT h;have e1:1<=u->u<=(h.Objs.length:Int)->zF (yB h) u=zF h u:=fun h1 h2=>by
  unfold zF yB;rw [zJD,zJD,zJ4 (by omega)]
 have e2:u=(h.Objs.length:Int)+1->zF (yB h) u=List.replicate h.Slots.toNat 0:=fun h1=>by
  unfold zF yB;rw [zJD,zJ9 (by omega),show (u-1).toNat-h.Objs.length=0 by omega];rfl
 have e3:yj h u j=true->yj (yB h) u j=true:=fun e=>by
  have hs:=Yf e;unfold yj;rw [e1 hs.1.1 hs.1.2,hl];simp;omega
 refine ⟨e3,?_⟩;by_cases c:yj h u j=true
 .have hs:=Yf c;unfold zN;rw [zb c,zb (e3 c),e1 hs.1.1 hs.1.2]
 .unfold zN;rw [zc c];split
  .rename_i d;have hs:=Yf d;by_cases hu:u<=(h.Objs.length:Int)
   .refine absurd ?_ c;rw [e1 hs.1.1 hu] at hs;unfold yj;simp;omega
   .rw [e2 (by omega),zJD];cases hx:(List.replicate h.Slots.toNat (0:Int))[j.toNat]? with
    | none=>rfl
    | some v=>exact zLp (zJG hx)
  .rfl
theorem zEQ (s:za) (m:Int) (x:ze):((zp s m x).1.H=s.H/\x.PC≠23)\/(x.PC=23/\(zp s m x).1.H=xr s.H (wC x (opM s.P m x).A) (opM s.P m x).S (wC x (opM s.P m x).R)/\(zp s m x).2.Buf=x.Buf)\/(x.PC=30/\(zp s m x).1.H=yB s.H):=by
 by_cases c:x.PC=23
 .have e:zp s m x=zgT s m x:=by
   unfold zp;rw [zi,zi,zi,zi,zi,zi,zi,zi,zb c]
  rw [e];exact .inr (.inl ⟨c,rfl,rfl⟩)
 by_cases d:x.PC=30
 .have e:zp s m x=Uo s m x:=by
   unfold zp;rw [zi,zi,zi,zi,zi,zi,zi,zi,zi,zb d]
  rw [e];unfold Uo;split
  .split
   .exact .inr (.inr ⟨d,rfl⟩)
   .exact .inl ⟨rfl,c⟩
  .exact .inl ⟨rfl,c⟩
 .rcases zpf s m x with h | h | h
  .exact .inl ⟨h,c⟩
  .exact absurd h c
  .exact absurd h d
theorem zGe {p:zd}{nb:Nat}{s:za}{gh:Gh}{m:Int}{x:ze}(K:MX p s gh x) (O:XOk p nb m x) (hb:∀o,zI s.T.Black o=true->zI s.T.Marks o=true) {o:Int}(h:zp1 x o):zp1 (zp s m x).2 o\/zI (zp s m x).1.T.Marks o=true:=by
 have hrt:=O.ret;have hpc:=O.pc;refine xG (motive:=fun r=>zp1 r.2 o\/zI r.1.T.Marks o=true) s m x ?_ ?_ ?_ ?_ ?_ ?_ ?_ ?_ ?_ ?_ ?_ ?_ ?_ ?_ ?_ ?_ ?_ ?_ ?_ ?_
 all_goals try (intro c)
 .-- 0
  rcases h with h | ⟨h,_⟩ | ⟨h,_⟩
  .left;left;unfold mu0 UU;repeat' split
   all_goals exact h
  .omega
  .omega
 .-- 1
  unfold mu1;dsimp only;split
  .rename_i hl;rcases h with h | ⟨h,e⟩ | ⟨h,_⟩
   .have:x.Buf=[]:=List.length_eq_zero_iff.1 hl;rw [this] at h;cases h
   .left;right;left;exact ⟨.inl (by show x.Ret=22;omega),e⟩
   .omega
  .rename_i hl;rcases h with h | ⟨h,e⟩ | ⟨h,_⟩
   .obtain ⟨i,hi⟩:=zLi.1 h;have hil:=(zJK.1 hi).1;by_cases hlast:i=x.Buf.length-1
    .left;right;right;refine ⟨.inl rfl,rfl,.inl rfl,?_⟩;show x.Buf.getD (x.Buf.length-1) 0=o;rw [zJD,<-hlast,hi];rfl
    .left;left;show o∈x.Buf.take (x.Buf.length-1);exact zJG (i:=i) (by rw [List.getElem?_take_of_lt (by omega)];exact hi)
   .left;right;left;exact ⟨.inr ⟨.inr rfl,by show x.Ret=22;omega⟩,e⟩
   .omega
 .rcases h with h | ⟨h,_⟩ | ⟨h,_⟩
  .left;left;exact h
  .omega
  .omega
 .-- 3
  obtain ⟨G,gm,g0⟩:=K.p3 c;unfold mu3;dsimp only;rcases h with h | ⟨h,e⟩ | ⟨_,h⟩
  .left;left;split<;>exact h
  .left;right;left;split
   .exact ⟨.inr ⟨.inl rfl,by show x.Ret=22;omega⟩,e⟩
   .exact ⟨.inr ⟨.inr c,by show x.Ret=22;omega⟩,e⟩
  .rcases ztZ G.md (h.2.2▸G.ob) (hb o) h with h' | h'
   .left;right;right;rw [zc (by have:=h'.1;omega)];exact ⟨.inl c,h'⟩
   .exact .inr h'
 .rcases h with h | ⟨h,_⟩ | ⟨h,_⟩
  .left;left;exact h
  .omega
  .omega
 .rcases h with h | ⟨h,_⟩ | ⟨h,_⟩
  .left;left;unfold zfQ;dsimp only;split<;>exact h
  .omega
  .omega
 .rcases h with h | ⟨h,_⟩ | ⟨h,_⟩
  .left;left;unfold zfW;dsimp only;split<;>exact h
  .omega
  .omega
 .-- 22
  unfold zfq;dsimp only;rcases h with h | ⟨h,e⟩ | ⟨h,_⟩
  .left;left;split
   .exact h
   .exact zJV _ h
  .left;split
   .right;left;exact ⟨.inr ⟨.inl rfl,rfl⟩,e⟩
   .left;exact zJ7 _ (by rw [e];simp)
  .omega
 .rcases h with h | ⟨h,_⟩ | ⟨h,_⟩
  .left;left;exact h
  .omega
  .omega
 .rcases h with h | ⟨h,_⟩ | ⟨h,_⟩
  .left;left;unfold Uo;repeat' split
   all_goals exact h
  .omega
  .omega
 .rcases h with h | ⟨h,_⟩ | ⟨h,_⟩
  .left;left;unfold zeN;dsimp only;split<;>exact h
  .omega
  .omega
 .rcases h with h | ⟨h,_⟩ | ⟨h,_⟩
  .left;left;unfold zeZ;dsimp only;repeat' split
   all_goals exact h
  .omega
  .omega
 .rcases h with h | ⟨h,_⟩ | ⟨h,_⟩
  .left;left;exact h
  .omega
  .omega
 .rcases h with h | ⟨h,_⟩ | ⟨h,_⟩
  .left;left;unfold zfe;dsimp only;split<;>exact h
  .omega
  .omega
 .rcases h with h | ⟨h,_⟩ | ⟨h,_⟩
  .left;left;unfold zeK;dsimp only;split<;>exact h
  .omega
  .omega
 .rcases h with h | ⟨h,_⟩ | ⟨h,_⟩
  .left;left;unfold zeM;dsimp only;split<;>exact h
  .omega
  .omega
 .-- 37
  obtain ⟨G,gm,g0⟩:=K.p37 c;unfold zaI;dsimp only;rcases h with h | ⟨h,e⟩ | ⟨_,h⟩
  .left;left;split<;>exact h
  .omega
  .rcases ztZ G.md (h.2.2▸G.ob) (hb o) h with h' | h'
   .left;right;right;rw [zc (by have:=h'.1;omega)];exact ⟨.inr c,h'⟩
   .exact .inr h'
 .rcases h with h | ⟨h,_⟩ | ⟨h,_⟩
  .left;left;exact h
  .omega
  .omega
 .rcases h with h | ⟨h,_⟩ | ⟨h,_⟩
  .left;left;exact h
  .omega
  .omega
 .exact .inl h
theorem zFr {p:zd}{nb:Nat}{s:za}{gh:Gh}(hsl:s.H.Slots=p.H.Slots) (h1:1<=p.H.Slots/\p.H.Slots<=2) {m:Int}{x:ze}(O:XOk p nb m x) (S:zu6 p.H.Slots x) :
  zu6 p.H.Slots (zp s m x).2/\∀u j,0<=j->zus x u j->zus (zp s m x).2 u j\/zN s.H u j=0\/zp1 (zp s m x).2 (zN s.H u j):=by
 have no:∀ {y:ze},y.PC≠36->y.PC≠37->y.PC≠38->zu6 p.H.Slots y/\∀u j,0<=j->zus x u j->zus y u j\/zN s.H u j=0\/zp1 y (zN s.H u j) :=
  fun a b c=>⟨⟨fun e=>absurd e a,fun e=>absurd e b,fun e=>absurd e c⟩,fun u j _ _=>.inl (fun e=>by omega)⟩
 have on:∀k:Int,(onM s k=36/\k≠p.H.Slots)\/(onM s k=38/\k=p.H.Slots):=fun k=>by
  unfold onM;rw [hsl];split
  .rename_i e;exact .inr ⟨rfl,e⟩
  .rename_i e;exact .inl ⟨rfl,e⟩
 refine xG (motive:=fun r=>zu6 p.H.Slots r.2/\∀u j,0<=j->zus x u j->zus r.2 u j\/zN s.H u j=0\/zp1 r.2 (zN s.H u j)) s m x ?_ ?_ ?_ ?_ ?_ ?_ ?_ ?_ ?_ ?_ ?_ ?_ ?_ ?_ ?_ ?_ ?_ ?_ ?_ ?_
 all_goals try (intro c)
 .unfold mu0 UU;repeat' split
  all_goals exact no (by (try dsimp only [setM]);omega) (by (try dsimp only [setM]);omega) (by (try dsimp only [setM]);omega)
 .have:=O.ret (.inl c);unfold mu1;dsimp only;split
  .exact no (by dsimp only;omega) (by dsimp only;omega) (by dsimp only;omega)
  .exact no (by dsimp only;omega) (by dsimp only;omega) (by dsimp only;omega)
 .unfold mu2;exact no (by dsimp only;omega) (by dsimp only;omega) (by dsimp only;omega)
 .unfold mu3;dsimp only;split
  .exact no (by dsimp only;omega) (by dsimp only;omega) (by dsimp only;omega)
  .exact no (by dsimp only;omega) (by dsimp only;omega) (by dsimp only;omega)
 .unfold zi8;exact no (by dsimp only [setM];omega) (by dsimp only [setM];omega) (by dsimp only [setM];omega)
 .unfold zfQ;dsimp only;split
  .exact no (by dsimp only [vJ];omega) (by dsimp only [vJ];omega) (by dsimp only [vJ];omega)
  .exact no (by dsimp only;omega) (by dsimp only;omega) (by dsimp only;omega)
 .unfold zfW;dsimp only;split
  .exact no (by dsimp only;omega) (by dsimp only;omega) (by dsimp only;omega)
  .exact no (by dsimp only;omega) (by dsimp only;omega) (by dsimp only;omega)
 .unfold zfq;dsimp only;split
  .exact no (by dsimp only;omega) (by dsimp only;omega) (by dsimp only;omega)
  .exact no (by dsimp only;omega) (by dsimp only;omega) (by dsimp only;omega)
 .unfold zgT;exact no (by dsimp only [vJ];omega) (by dsimp only [vJ];omega) (by dsimp only [vJ];omega)
 .unfold Uo;split
  .split
   .exact no (by dsimp only [setM];omega) (by dsimp only [setM];omega) (by dsimp only [setM];omega)
   .exact no (by dsimp only [vJ];omega) (by dsimp only [vJ];omega) (by dsimp only [vJ];omega)
  .exact no (by dsimp only;omega) (by dsimp only;omega) (by dsimp only;omega)
 .unfold zeN;dsimp only;split
  .exact no (by dsimp only;omega) (by dsimp only;omega) (by dsimp only;omega)
  .exact no (by dsimp only;omega) (by dsimp only;omega) (by dsimp only;omega)
 .unfold zeZ;dsimp only;repeat' split
  all_goals exact no (by dsimp only;omega) (by dsimp only;omega) (by dsimp only;omega)
 .unfold zjw;exact no (by dsimp only;omega) (by dsimp only;omega) (by dsimp only;omega)
 .unfold zfe;dsimp only;split
  .exact no (by dsimp only;omega) (by dsimp only;omega) (by dsimp only;omega)
  .exact no (by dsimp only;omega) (by dsimp only;omega) (by dsimp only;omega)
 .unfold zeK;dsimp only;split
  .exact no (by dsimp only;omega) (by dsimp only;omega) (by dsimp only;omega)
  .exact ⟨⟨fun _=>⟨zKl _,by show (0:Int)<_;omega⟩,fun e=>absurd e (by show ¬(36:Int)=37;decide),fun e=>absurd e (by show ¬(36:Int)=38;decide)⟩,fun u j h0 _=>.inl (fun _ _=>h0)⟩
 .-- 36
  have hs:=S.1 c;have w:wc (x.Slot+1)=x.Slot+1:=yT;unfold zeM;dsimp only;rw [w];split
  .rename_i hv;refine ⟨⟨fun e=>?_,fun e=>?_,fun e=>?_⟩,fun u j h0 h=>?_⟩
   .dsimp only at e ⊢;have:=on (x.Slot+1);omega
   .dsimp only at e ⊢;have:=on (x.Slot+1);omega
   .dsimp only at e ⊢;have:=on (x.Slot+1);omega
   .by_cases hu:x.Obj=u
    .have hle:=h (.inl c) hu;by_cases hj:j=x.Slot
     .right;left;rw [<-hu,hj];exact hv
     .left;intro _ _;show x.Slot+1<=j;omega
    .left;intro _ e;exact absurd e hu
  .rename_i hv;refine ⟨⟨fun e=>absurd e (by show ¬(37:Int)=36;decide),fun _=>⟨by show 1<=x.Slot+1;omega,by show x.Slot+1<=_;omega⟩,fun e=>absurd e (by show ¬(37:Int)=38;decide)⟩,fun u j h0 h=>?_⟩;by_cases hu:x.Obj=u
   .have hle:=h (.inl c) hu;by_cases hj:j=x.Slot
    .right;right;right;right;exact ⟨.inr rfl,rfl,.inl rfl,by rw [<-hu,hj];rfl⟩
    .left;intro _ _;show x.Slot+1<=j;omega
   .left;intro _ e;exact absurd e hu
 .-- 37
  have hs:=S.2.1 c;unfold zaI;dsimp only;split
  .refine ⟨⟨fun e=>?_,fun e=>?_,fun e=>?_⟩,fun u j h0 h=>.inl (fun _ e=>h (.inr (.inl c)) e)⟩
   .dsimp only at e ⊢;have:=on x.Slot;omega
   .dsimp only at e ⊢;have:=on x.Slot;omega
   .dsimp only at e ⊢;have:=on x.Slot;omega
  .exact ⟨⟨fun e=>absurd e (by show ¬x.PC=36;omega),fun _=>hs,fun e=>absurd e (by show ¬x.PC=38;omega)⟩,fun u j h0 h=>.inl (fun _ e=>h (.inr (.inl c)) e)⟩
 .unfold zgj;exact no (by dsimp only;omega) (by dsimp only;omega) (by dsimp only;omega)
 .unfold zlh;exact no (by dsimp only;omega) (by dsimp only;omega) (by dsimp only;omega)
 .exact ⟨S,fun u j _ h=>.inl h⟩
theorem zav.mono {s s':za}(F:zav s s') {o:Int}(h:zI s.T.Marks o=true):zI s'.T.Marks o=true:=by
 rcases F with ⟨e,_⟩ | ⟨q,_,_,e,_⟩ | ⟨q,_,e,_⟩ | ⟨_,_,e⟩
 .rw [e];exact h
 .rw [e];exact (xQ _ _ _).2 (.inl h)
 .rw [e];exact h
 .rw [e];exact (xQ _ _ _).2 (.inl h)
theorem zEx {p:zd}{s:za}(hP:s.P=p) {W:Int->Int->Prop}{m:Int}{x:ze}(K:zrK p s W m x) (mono:∀o,zI s.T.Marks o=true->zI (zp s m x).1.T.Marks o=true) (hr:x.PC=1\/x.PC=3->x.Ret=2\/x.Ret=22) :
  ∀l:List ze,zrK p {(zp s m x).1 with Ms:=l} (fun u j=>W u j\/(x.PC=23/\u=wC x (opM p m x).A/\j=(opM p m x).S)) m (zp s m x).2:=by
 intro l;have no:∀ {t:za}{y:ze},¬(y.PC=21\/y.PC=22\/((y.PC=1\/y.PC=3)/\y.Ret=22))->y.PC≠23->zrK p t (fun u j=>W u j\/(x.PC=23/\u=wC x (opM p m x).A/\j=(opM p m x).S)) m y :=
  fun a b _=>⟨fun e=>absurd e a,fun e=>absurd e b⟩
 have keep:∀ {t:za}{y:ze},y.IP=x.IP->y.Regs=x.Regs->wC y (opM p m y).A=wC x (opM p m x).A/\(opM p m y).S=(opM p m x).S:=fun e1 e2=>by
  unfold opM wC;rw [e1,e2];exact ⟨rfl,rfl⟩
 revert mono;refine xG (motive:=fun r=>(∀o,zI s.T.Marks o=true->zI r.1.T.Marks o=true)->zrK p {r.1 with Ms:=l} (fun u j=>W u j\/(x.PC=23/\u=wC x (opM p m x).A/\j=(opM p m x).S)) m r.2) s m x ?_ ?_ ?_ ?_ ?_ ?_ ?_ ?_ ?_ ?_ ?_ ?_ ?_ ?_ ?_ ?_ ?_ ?_ ?_ ?_
 .intro c _;unfold mu0 UU;repeat' split
  all_goals exact no (by (try dsimp only [setM]);omega) (by (try dsimp only [setM]);omega)
 .intro c _;have hr:=hr (.inl c);unfold mu1;dsimp only;intro hW;split
  .refine ⟨fun e=>?_,fun e=>by dsimp only at e;omega⟩;have e:x.Ret=21\/x.Ret=22\/((x.Ret=1\/x.Ret=3)/\x.Ret=22):=e;exact (K (fun h=>hW (by split<;>exact .inl h))).1 (.inr (.inr ⟨.inl c,by omega⟩))
  .refine ⟨fun e=>?_,fun e=>by dsimp only at e;omega⟩;have e:(3:Int)=21\/(3:Int)=22\/(((3:Int)=1\/(3:Int)=3)/\x.Ret=22):=e;exact (K (fun h=>hW (by split<;>exact .inl h))).1 (.inr (.inr ⟨.inl c,by omega⟩))
 .intro c _;unfold mu2;exact no (by (try dsimp only);omega) (by (try dsimp only);omega)
 .intro c _;unfold mu3;dsimp only;intro hW;have eH:(zy s x.G).1.H=s.H:=by rw [vF]
  split
  .refine ⟨fun e=>?_,fun e=>by dsimp only at e;omega⟩;have e:(1:Int)=21\/(1:Int)=22\/(((1:Int)=1\/(1:Int)=3)/\x.Ret=22):=e;show x.Old=zN (zy s x.G).1.H _ _;rw [eH];exact (K (fun h=>hW (by split<;>exact .inl h))).1 (.inr (.inr ⟨.inr c,by omega⟩))
  .refine ⟨fun e=>?_,fun e=>by dsimp only at e;omega⟩;have e:x.PC=21\/x.PC=22\/((x.PC=1\/x.PC=3)/\x.Ret=22):=e;show x.Old=zN (zy s x.G).1.H _ _;rw [eH];exact (K (fun h=>hW (by split<;>exact .inl h))).1 (.inr (.inr ⟨.inr c,by omega⟩))
 .intro c _;unfold zi8;exact no (by (try dsimp only [setM]);omega) (by (try dsimp only [setM]);omega)
 .intro c _;unfold zfQ;dsimp only;split
  .exact no (by (try dsimp only [vJ]);omega) (by (try dsimp only [vJ]);omega)
  .intro hW;refine ⟨fun _=>?_,fun e=>by dsimp only at e;omega⟩;show zsy s m x=_;unfold zsy;rw [hP];rfl
 .intro c mono;unfold zfW;dsimp only;split
  .rename_i h;intro hW;have k:=(K (fun h=>hW (.inl h))).1 (.inl c);refine ⟨fun e=>by dsimp only at e;omega,fun _=>?_⟩;show zN s.H (wC x (opM p m x).A) (opM p m x).S=0\/zI s.T.Marks (zN s.H (wC x (opM p m x).A) (opM p m x).S)=true\/_;rw [<-k];rcases h with h | h
   .exact .inl h
   .right;left;unfold yh at h;split at h
    .rename_i h2;exact ((ui _ _ _).1 h2).1
    .split at h
     .assumption
     .exact absurd rfl h
  .intro hW;exact ⟨fun _=>(K (fun h=>hW (.inl h))).1 (.inl c),fun e=>by dsimp only at e;omega⟩
 .intro c mono;unfold zfq;dsimp only;split
  .intro hW;exact ⟨fun _=>(K (fun h=>hW (.inl h))).1 (.inr (.inl c)),fun e=>by dsimp only at e;omega⟩
  .intro hW;have k:=(K (fun h=>hW (.inl h))).1 (.inr (.inl c));refine ⟨fun e=>by dsimp only at e;omega,fun _=>.inr (.inr ?_)⟩;show zN s.H (wC x (opM p m x).A) (opM p m x).S∈x.Buf++[x.Old];rw [<-k];simp
 .intro c _;unfold zgT;exact no (by (try dsimp only [vJ]);omega) (by (try dsimp only [vJ]);omega)
 .intro c _;unfold Uo;split
  .split
   .exact no (by (try dsimp only [setM]);omega) (by (try dsimp only [setM]);omega)
   .exact no (by (try dsimp only [vJ]);omega) (by (try dsimp only [vJ]);omega)
  .exact no (by (try dsimp only);omega) (by (try dsimp only);omega)
 .intro c _;unfold zeN;dsimp only;split
  .exact no (by (try dsimp only);omega) (by (try dsimp only);omega)
  .exact no (by (try dsimp only);omega) (by (try dsimp only);omega)
 .intro c _;unfold zeZ;dsimp only;repeat' split
  all_goals exact no (by (try dsimp only);omega) (by (try dsimp only);omega)
 .intro c _;unfold zjw;exact no (by (try dsimp only);omega) (by (try dsimp only);omega)
 .intro c _;unfold zfe;dsimp only;split
  .exact no (by (try dsimp only);omega) (by (try dsimp only);omega)
  .exact no (by (try dsimp only);omega) (by (try dsimp only);omega)
 .intro c _;unfold zeK;dsimp only;split
  .exact no (by (try dsimp only);omega) (by (try dsimp only);omega)
  .exact no (by (try dsimp only);omega) (by (try dsimp only);omega)
 .intro c _;unfold zeM;dsimp only;have:=zdl s (wc (x.Slot+1));split
  .exact no (by (try dsimp only);omega) (by (try dsimp only);omega)
  .exact no (by (try dsimp only);omega) (by (try dsimp only);omega)
 .intro c _;unfold zaI;dsimp only;have:=zdl s x.Slot;split
  .exact no (by (try dsimp only);omega) (by (try dsimp only);omega)
  .exact no (by (try dsimp only);omega) (by (try dsimp only);omega)
 .intro c _;unfold zgj;exact no (by (try dsimp only);omega) (by (try dsimp only);omega)
 .intro c _;unfold zlh;exact no (by (try dsimp only);omega) (by (try dsimp only);omega)
 .intro _ hW;exact K (fun h=>hW (.inl h))
theorem zvi {p:zd}{nb k:Nat}{s s':za}{gh:Gh}(G:FG p nb k s gh) (F:zav s s') {u:Int}(hu:u<=(s.H.Objs.length:Int)) (h:yh s.T u=1):yh s'.T u=1\/(yh s.T u=1/\s'.T={s.T with Black:=s.T.Black|||bit u}):=by
 have ht:=(wY _ _).1 h;rcases F with ⟨e,_⟩ | ⟨q,_,_,e,_⟩ | ⟨q,hq,e,_⟩ | ⟨_,_,e⟩
 .left;rw [e];exact h
 .left;rw [e,wY];exact ⟨(xQ _ _ _).2 (.inl ht.1),ht.2⟩
 .by_cases hqu:u=q
  .right;subst hqu;exact ⟨h,e⟩
  .left;rw [e,wY];exact ⟨ht.1,fun hb=>(WM hb).elim ht.2 (fun e=>hqu e)⟩
 .left;rw [e,wY];exact ⟨(xQ _ _ _).2 (.inl ht.1),fun hb=>(WM hb).elim ht.2 (fun e=>by omega)⟩
theorem ztm {p:zd}{nb k:Nat}{s s':za}{gh:Gh}(G:FG p nb k s gh) (F:zav s s') {u:Int}(hu:u<=(s.H.Objs.length:Int)) (h: ¬zI s.T.Marks u=true) (h':zI s'.T.Marks u=true):yh s'.T u=1:=by
 have nb: ¬zI s.T.Black u=true:=fun e=>h (G.B.blk u e);rcases F with ⟨e,_⟩ | ⟨q,_,_,e,_⟩ | ⟨q,hq,e,_⟩ | ⟨_,_,e⟩
 .rw [e] at h';exact absurd h' h
 .rw [wY];refine ⟨h',?_⟩;rw [e];exact nb
 .rw [e] at h';exact absurd h' h
 .rw [e] at h';rcases WM h' with h2 | h2
  .exact absurd h2 h
  .omega
theorem zCT {p:zd}{nb:Nat}{s:za}(E:EOk p nb s) {u j:Int}(h:yj s.H u j=true):0<=j/\j<p.H.Slots:=by
 have hs:=Yf h;have hm:zF s.H u∈s.H.Objs:=by
  unfold zF;rw [zJD,zJC (show (u-1).toNat<s.H.Objs.length by omega)];exact zJY _
 have h1:=(E.H.objs _ hm).1;have h2:=E.H.slots;omega
theorem zHs {s:za}{m:Int}{x:ze}(c:x.PC=3):(zp s m x).2.PC=1\/(zp s m x).2.PC=3:=by
 unfold zp;rw [zi,zi,zi,zb c];unfold mu3;dsimp only;split
 .exact .inl rfl
 .exact .inr c
theorem zFN {s:za}{m:Int}{x:ze}(c:x.PC=37):(zp s m x).2.Obj=x.Obj:=by
 have e37:zp s m x=zaI s m x:=by
  unfold zp;rw [zi,zi,zi,zi,zi,zi,zi,zi,zi,zi,zi,zi,zi,zi,zi,zi,zb c]
 rw [e37];unfold zaI;dsimp only;split<;>rfl
def zEc (s:za) (m:Int) (x:ze) (N C:List Int):Prop :=
 (N=[]/\C=[]/\(zp s m x).1.T=s.T)\/(N=[x.G.Obj]/\C=[]/\(x.PC=3\/x.PC=37)/\¬(s.T.Marks|||bit x.G.Obj=s.T.Marks)/\(zp s m x).1.T={s.T with Marks:=s.T.Marks|||bit x.G.Obj})\/(N=[]/\C=[x.Obj]/\x.PC=38/\(zp s m x).1.T=yX s.T x.Obj) \/
   (N=[]/\C=[]/\x.PC=30/\Zz s.H s.P.Most=true/\(zp s m x).1.H=yB s.H/\(zp s m x).1.T=Y2 s.T (wc (s.H.Objs.length+1)))
theorem FG.fresh {p:zd}(hp:zD p) {nb k:Nat}{s:za}{gh:Gh}(G:FG p nb k s gh):Y2 s.T (wc (s.H.Objs.length+1))=⟨s.T.Marks|||bit ((s.H.Objs.length:Int)+1),s.T.Black|||bit ((s.H.Objs.length:Int)+1)⟩/\¬zI s.T.Marks ((s.H.Objs.length:Int)+1)=true/\(s.H.Objs.length:Int)<=9:=by
 have hN0:=G.E.H.n;have hM0:=hp.most;have hn6:=hp.n;have nm: ¬zI s.T.Marks ((s.H.Objs.length:Int)+1)=true:=fun e=>by have:=G.mrk _ e;omega
 have hw:wc ((s.H.Objs.length:Int)+1)=(s.H.Objs.length:Int)+1:=yT;rw [hw,zd5 (by omega) nm (fun e=>nm (G.B.blk _ e))];exact ⟨rfl,nm,by omega⟩
theorem zEF {p:zd}(hp:zD p) {nb k:Nat}{s:za}{gh:Gh}(G:FG p nb k s gh) {m:Int}{i:Nat}{x:ze}(hx:s.Ms[i]? =some x) {N C:List Int}(hT:zEc s m x N C) {u:Int}(hg:yh s.T u=1)
  (h:(zp s m x).1.T={s.T with Black:=s.T.Black|||bit u}):x.PC=38/\x.Obj=u:=by
 have hb:=((wY _ _).1 hg).2;have hu:=(yN s.T.Black (VN hg) u).2 (.inr rfl);rcases hT with ⟨_,_,e⟩ | ⟨_,_,_,_,e⟩ | ⟨_,_,c,e⟩ | ⟨_,_,_,_,e1,e⟩
 .rw [e] at h;have:=congrArg zm.Black h;exact absurd (by rw [this];exact hu) hb
 .rw [e] at h;have:=congrArg zm.Black h;exact absurd (by rw [this];exact hu) hb
 .have hob:yh s.T x.Obj=1:=G.grey (zoW hx (by unfold z8;rw [UW (.inr c)];simp));rw [e] at h;unfold yX at h;rw [zb hob] at h;have hbb:s.T.Black|||bit x.Obj=s.T.Black|||bit u:=congrArg zm.Black h;refine ⟨c,?_⟩;rw [<-hbb] at hu;rcases WM hu with h2 | h2
  .exact absurd h2 hb
  .exact h2.symm
 .obtain ⟨f1,f2,f3⟩:=G.fresh hp;rw [e,f1] at h;have:s.T.Marks|||bit ((s.H.Objs.length:Int)+1)=s.T.Marks:=congrArg zm.Marks h;exact absurd (by rw [<-this];exact (yN _ (by omega) _).2 (.inr rfl)) f2
theorem zEX {p:zd}(hp:zD p) {nb k:Nat}{s:za}{gh:Gh}(G:FG p nb k s gh) {m:Int}{x:ze}{N C:List Int}(hT:zEc s m x N C) {u:Int}(hu:u<=(s.H.Objs.length:Int)) (h0: ¬zI s.T.Marks u=true) (h1:zI (zp s m x).1.T.Marks u=true):x.PC=3\/x.PC=37:=by
 rcases hT with ⟨_,_,e⟩ | ⟨_,_,c,_,e⟩ | ⟨_,_,c,e⟩ | ⟨_,_,c,_,_,e⟩
 .rw [e] at h1;exact absurd h1 h0
 .exact c
 .rw [e,(zkJ _ _).1] at h1;exact absurd h1 h0
 .obtain ⟨f1,f2,f3⟩:=G.fresh hp;rw [e,f1] at h1;rcases WM h1 with h | h
  .exact absurd h h0
  .omega
theorem zwL {p:zd}{nb k:Nat}{s:za}{gh:Gh}(G:FG p nb k s gh) {i:Nat}{y:zk}(hy:s.Ws[i]? =some y) (hpc:y.PC=5\/y.PC=6\/y.PC=8):zI s.T.Marks y.Obj=true:=by
 have hg:yh s.T y.Obj=1:=G.grey (zo4 hy (by
  unfold zW;rcases hpc with e | e | e
  .rw [WI (.inl e)];simp
  .rw [zv3 e];simp
  .rw [WI (.inr e)];simp))
 exact ((wY _ _).1 hg).1
theorem zwG {p:zd}{nb k:Nat}{s:za}{gh:Gh}(G:FG p nb k s gh) {i:Nat}{y:ze}(hy:s.Ms[i]? =some y) (hpc:y.PC=36\/y.PC=37\/y.PC=38):zI s.T.Marks y.Obj=true:=by
 have hg:yh s.T y.Obj=1:=G.grey (zoW hy (by
  unfold z8;rcases hpc with e | e | e
  .rw [UW (.inl e)];simp
  .rw [zsz e];simp
  .rw [UW (.inr e)];simp))
 exact ((wY _ _).1 hg).1
theorem PI.mutator {p:zd}(hp:zD p) {nb k:Nat}{s:za}{gh:Gh}(hk:k<4294960000) (G:FG p nb k s gh) {W:Int->Int->Prop}(I:PI p s W) {m:Int}(hm:1<=m/\m<=p.Mutators) (hd:s.Done=false):∃W',PI p (zH s m) W':=by
 obtain ⟨gh',G',F,x,hx,N,C,hbag,hT⟩:=G.mutator hp hk hm hd;have hT:zEc s m x N C:=hT;have hml:=G.E.ml;have hsl:=hp.slots;have hi:(m-1).toNat<s.Ms.length:=(zJK.1 hx).1;have ei:(((m-1).toNat:Nat):Int)+1=m:=by omega
 have eS:zH s m={(zp s m x).1 with Ms:=s.Ms.set (m-1).toNat (zp s m x).2}:=by
  unfold zH;rw [zc (by rw [hd];rintro (e | e | e)<;>first | cases e | omega),hx]
 have hMX:=G.M _ x hx;have hXO:=G.E.X _ x hx;have hcv:=I.cv _ x hx;rw [ei] at hXO hcv;have hP:=G.E.S.P;have eH:(zH s m).H=(zp s m x).1.H:=by rw [eS]
 have eT:(zH s m).T=(zp s m x).1.T:=by rw [eS]
 have eW:(zH s m).Ws=s.Ws:=by rw [eS];show (zp s m x).1.Ws=_;rw [znt]
 have eX:(zH s m).Ms=s.Ms.set (m-1).toNat (zp s m x).2:=by rw [eS]
 have mono:∀o,zI s.T.Marks o=true->zI (zH s m).T.Marks o=true:=fun o h=>F.mono h;obtain ⟨sl1,sl2⟩:=zFr (s:=s) (m:=m) (gh:=gh) G.E.H.slots hsl hXO (I.sx _ x hx);have here:(zH s m).Ms[(m-1).toNat]? =some (zp s m x).2:=by rw [eX];exact zKV hi
 have there:∀(i:Nat) y,i≠(m-1).toNat->s.Ms[i]? =some y->(zH s m).Ms[i]? =some y:=fun i y hne h=>by rw [eX,zKc (fun e=>hne e.symm)];exact h
 have back:∀(i:Nat) y,(zH s m).Ms[i]? =some y->(i=(m-1).toNat/\y=(zp s m x).2)\/(i≠(m-1).toNat/\s.Ms[i]? =some y):=fun i y h=>by
  rw [eX] at h;by_cases hne:i=(m-1).toNat
  .subst hne;rw [zKV hi] at h;injection h with h;exact .inl ⟨rfl,h.symm⟩
  .rw [zKc (fun e=>hne e.symm)] at h;exact .inr ⟨hne,h⟩
 have heapS:∀u j,¬(x.PC=23/\u=wC x (opM p m x).A/\j=(opM p m x).S)->(yj s.H u j=true->yj (zH s m).H u j=true)/\zN (zH s m).H u j=zN s.H u j:=fun u j hne=>by
  rw [eH];rcases zEQ s m x with ⟨e,_⟩ | ⟨c,e,_⟩ | ⟨_,e⟩
  .rw [e];exact ⟨id,rfl⟩
  .rw [e,hP];obtain ⟨a,b⟩:=zH0 (h:=s.H) (a:=wC x (opM p m x).A) (i:=(opM p m x).S) (v:=wC x (opM p m x).R) (u:=u) (j:=j) (fun e=>hne ⟨c,e⟩) (fun e=>(Yf e).2.1);exact ⟨fun h=>a.trans h,b⟩
  .rw [e];exact zFG _ _ _
 have P:zuP s (zH s m) W (fun u j=>W u j\/(x.PC=23/\u=wC x (opM p m x).A/\j=(opM p m x).S)):=by
  refine ⟨mono,fun o h=>?_,fun u j hW hj=>?_,fun u j hW hj hg hu=>?_,fun u j hW hj hm0 hm1=>?_⟩
  .rcases h with ⟨i,y,hy,h⟩ | ⟨i,y,hy,h⟩
   .right;left;exact ⟨i,y,by rw [eW];exact hy,h⟩
   .by_cases hne:i=(m-1).toNat
    .subst hne;rw [hx] at hy;injection hy with hy;subst hy;rcases zGe (m:=m) hMX hXO G.B.blk h with h | h
     .right;right;exact ⟨_,_,here,h⟩
     .left;rw [eT];exact h
    .right;right;exact ⟨i,y,there i y hne hy,h⟩
  .by_cases hc:x.PC=23/\u=wC x (opM p m x).A/\j=(opM p m x).S
   .obtain ⟨c,rfl,rfl⟩:=hc;right;rcases (hcv hW).2 c with h | h | h
    .exact .inl h
    .exact .inr (.inl (mono _ h))
    .right;right;right;refine ⟨_,_,here,.inl ?_⟩;rcases zEQ s m x with ⟨_,e⟩ | ⟨_,_,e⟩ | ⟨e,_⟩
     .exact absurd c e
     .rw [e];exact h
     .omega
   .left;obtain ⟨a,b⟩:=heapS u j hc;exact ⟨fun h=>h.elim hW hc,a hj,b⟩
  .have hpos:=Yf hj;have hrow:=zCT G.E hj;have htint:yh (zH s m).T u=1:=by
    rcases zvi G F hpos.1.2 hg with h | ⟨_,h⟩
    .exact h
    .exfalso;obtain ⟨c,ho⟩:=zEF hp G hx hT hg (by rw [<-eT];exact h);have hle:=hu.2 _ x hx (.inr (.inr c)) ho;have:=(I.sx _ x hx).2.2 c;omega
   rcases sl2 u j hpos.2.1 (hu.2 _ x hx) with h | h | h
   .left;refine ⟨htint,fun i y hy=>hu.1 i y (by rw [<-eW];exact hy),fun i y hy=>?_⟩;rcases back i y hy with ⟨_,rfl⟩ | ⟨_,hy⟩
    .exact h
    .exact hu.2 i y hy
   .exact .inr (.inl h)
   .exact .inr (.inr (.inr (.inr ⟨_,_,here,h⟩)))
  .have hpos:=Yf hj;refine ⟨ztm G F hpos.1.2 hm0 hm1,fun i y hy hpc ho=>?_,fun i y hy hpc ho=>?_⟩
   .rw [eW] at hy;exact absurd (ho▸zwL G hy hpc) hm0
   .rcases back i y hy with ⟨_,rfl⟩ | ⟨_,hy⟩
    .exfalso;rcases zEX hp G hT hpos.1.2 hm0 (by rw [<-eT];exact hm1) with c | c
     .have:=zHs (s:=s) (m:=m) c;omega
     .have h3:=zFN (s:=s) (m:=m) c;exact hm0 (by rw [<-ho,h3];exact zwG G hx (.inr (.inl c)))
    .exact absurd (ho▸zwG G hy hpc) hm0
 refine ⟨fun u j=>W u j\/(x.PC=23/\u=wC x (opM p m x).A/\j=(opM p m x).S),fun o ho=>?_,fun i y hy=>I.sw i y (by rw [<-eW];exact hy),fun i y hy=>?_,fun i y hy=>?_⟩
 .have h0:o≠0:=by have:=ho.in;omega
  rcases I.lv o ho with h | h
  .exact .inl (mono o h)
  .exact P.prot h h0
 .rcases back i y hy with ⟨_,rfl⟩ | ⟨_,hy⟩
  .exact sl1
  .exact I.sx i y hy
 .rcases back i y hy with ⟨rfl,rfl⟩ | ⟨_,hy⟩
  .rw [ei,eS];exact zEx hP hcv (fun o h=>by rw [<-eT];exact mono o h) hXO.ret _
  .intro hW;have hW1: ¬W (wC y (opM p ((i:Int)+1) y).A) (opM p ((i:Int)+1) y).S:=fun h=>hW (.inl h);obtain ⟨a,b⟩:=I.cv i y hy hW1;have hh:=(heapS (wC y (opM p ((i:Int)+1) y).A) (opM p ((i:Int)+1) y).S (fun h=>hW (.inr h))).2;rw [hh];exact ⟨a,fun e=>(b e).imp id (fun h=>h.imp (mono _) id)⟩
theorem zBl {s:za}{w:Int}{x:zk}(c:x.PC=6):zu s w x=((zy s x.G).1,if (zy s x.G).2.Out=1 then {x with G:=(zy s x.G).2,PC:=onW s x.Slot} else {x with G:=(zy s x.G).2}):=by
 unfold zu;rw [zi,zi,zi,zi,zi,zb c]
theorem zFJ {p:zd}{s:za}{gh:Gh}{w:Int}{x:zk}(K:WX p s gh w x) (hb:∀o,zI s.T.Black o=true->zI s.T.Marks o=true) {o:Int}(h:zmZ x o):zmZ (zu s w x).2 o\/zI (zu s w x).1.T.Marks o=true:=by
 obtain ⟨c,h⟩:=h;obtain ⟨G,gm,gw,g0⟩:=K.p6 c;rw [zBl c];dsimp only;rcases ztZ G.md (h.2.2▸G.ob) (hb o) h with h' | h'
 .left;rw [zc (by have:=h'.1;omega)];exact ⟨c,h'⟩
 .exact .inr h'
theorem zDN {p:zd}{nb:Nat}{s:za}(hsl:s.H.Slots=p.H.Slots) (h1:1<=p.H.Slots/\p.H.Slots<=2) {w:Int}{x:zk}(O:WOk p nb w x) (S:zqh p.H.Slots x) :
  zqh p.H.Slots (zu s w x).2/\∀u j,0<=j->zk5 x u j->zk5 (zu s w x).2 u j\/zN s.H u j=0\/zmZ (zu s w x).2 (zN s.H u j):=by
 have hpc:=O.pc;have no:∀ {y:zk},y.PC≠5->y.PC≠6->y.PC≠8->zqh p.H.Slots y/\∀u j,0<=j->zk5 x u j->zk5 y u j\/zN s.H u j=0\/zmZ y (zN s.H u j) :=
  fun a b c=>⟨⟨fun e=>absurd e a,fun e=>absurd e b,fun e=>absurd e c⟩,fun u j _ _=>.inl (fun e=>by omega)⟩
 have zero:∀ {y:zk},y.PC=5->y.Slot=0->zqh p.H.Slots y/\∀u j,0<=j->zk5 x u j->zk5 y u j\/zN s.H u j=0\/zmZ y (zN s.H u j) :=
  fun a b=>⟨⟨fun _=>by omega,fun e=>by omega,fun e=>by omega⟩,fun u j h0 _=>.inl (fun _ _=>by omega)⟩
 have on:∀k:Int,(onW s k=5/\k≠p.H.Slots)\/(onW s k=8/\k=p.H.Slots):=fun k=>by
  unfold onW;rw [hsl];split
  .rename_i e;exact .inr ⟨rfl,e⟩
  .rename_i e;exact .inl ⟨rfl,e⟩
 have lk:∀y:zk,(Z3 s.P w y).PC=1\/(Z3 s.P w y).PC=2:=fun y=>by unfold Z3;split<;>simp
 by_cases c6:x.PC=6
 .have hs:=S.2.1 c6;rw [zBl c6];dsimp only;split
  .refine ⟨⟨fun e=>?_,fun e=>?_,fun e=>?_⟩,fun u j h0 h=>.inl (fun _ e=>h (.inr (.inl c6)) e)⟩
   .dsimp only at e ⊢;have:=on x.Slot;omega
   .dsimp only at e ⊢;have:=on x.Slot;omega
   .dsimp only at e ⊢;have:=on x.Slot;omega
  .exact ⟨⟨fun e=>absurd e (by show ¬x.PC=5;omega),fun _=>hs,fun e=>absurd e (by show ¬x.PC=8;omega)⟩,fun u j h0 h=>.inl (fun _ e=>h (.inr (.inl c6)) e)⟩
 have key:∀r:za×zk,zu s w x=r->(zqh p.H.Slots r.2/\∀u j,0<=j->zk5 x u j->zk5 r.2 u j\/zN s.H u j=0\/zmZ r.2 (zN s.H u j))->zqh p.H.Slots (zu s w x).2/\∀u j,0<=j->zk5 x u j->zk5 (zu s w x).2 u j\/zN s.H u j=0\/zmZ (zu s w x).2 (zN s.H u j):=fun r e h=>by rw [e];exact h
 by_cases c01:x.PC=0\/x.PC=1
 .refine key _ (by unfold zu;rw [zb c01]) ?_;dsimp only;split
  .exact zero rfl rfl
  split
  .have:=lk {x with D:=(z3 s.M x.D).2};exact no (by omega) (by omega) (by omega)
  .exact no (by dsimp only;omega) (by dsimp only;omega) (by dsimp only;omega)
 by_cases c2:x.PC=2
 .refine key _ (by unfold zu;rw [zc c01,zb c2]) ?_;dsimp only;split
  .exact no (by dsimp only;omega) (by dsimp only;omega) (by dsimp only;omega)
  split
  .exact no (by show (0:Int)≠5;decide) (by show (0:Int)≠6;decide) (by show (0:Int)≠8;decide)
  .exact no (by dsimp only;omega) (by dsimp only;omega) (by dsimp only;omega)
 by_cases c3:x.PC=3
 .refine key _ (by unfold zu;rw [zc c01,zc c2,zb c3]) ?_;exact no (by dsimp only;omega) (by dsimp only;omega) (by dsimp only;omega)
 by_cases c4:x.PC=4
 .refine key _ (by unfold zu;rw [zc c01,zc c2,zc c3,zb c4]) ?_;dsimp only;split
  .exact no (by dsimp only;omega) (by dsimp only;omega) (by dsimp only;omega)
  .exact no (by dsimp only;omega) (by dsimp only;omega) (by dsimp only;omega)
 by_cases c:x.PC=5
 .have hs:=S.1 c;have ww:wc (x.Slot+1)=x.Slot+1:=yT;refine key _ (by unfold zu;rw [zc c01,zc c2,zc c3,zc c4,zb c]) ?_;dsimp only;rw [ww];split
  .rename_i hv;refine ⟨⟨fun e=>?_,fun e=>?_,fun e=>?_⟩,fun u j h0 h=>?_⟩
   .dsimp only at e ⊢;have:=on (x.Slot+1);omega
   .dsimp only at e ⊢;have:=on (x.Slot+1);omega
   .dsimp only at e ⊢;have:=on (x.Slot+1);omega
   .by_cases hu:x.Obj=u
    .have hle:=h (.inl c) hu;by_cases hj:j=x.Slot
     .right;left;rw [<-hu,hj];exact hv
     .left;intro _ _;show x.Slot+1<=j;omega
    .left;intro _ e;exact absurd e hu
  .rename_i hv;refine ⟨⟨fun e=>absurd e (by show ¬(6:Int)=5;decide),fun _=>⟨by show 1<=x.Slot+1;omega,by show x.Slot+1<=_;omega⟩,fun e=>absurd e (by show ¬(6:Int)=8;decide)⟩,fun u j h0 h=>?_⟩;by_cases hu:x.Obj=u
   .have hle:=h (.inl c) hu;by_cases hj:j=x.Slot
    .right;right;exact ⟨rfl,rfl,.inl rfl,by rw [<-hu,hj];rfl⟩
    .left;intro _ _;show x.Slot+1<=j;omega
   .left;intro _ e;exact absurd e hu
 by_cases c7:x.PC=7
 .refine key _ (by unfold zu;rw [zc c01,zc c2,zc c3,zc c4,zc c,zc c6,zb c7]) ?_;dsimp only;split
  .exact no (by show (0:Int)≠5;decide) (by show (0:Int)≠6;decide) (by show (0:Int)≠8;decide)
  .exact zero rfl rfl
 by_cases c8:x.PC=8
 .refine key _ (by unfold zu;rw [zc c01,zc c2,zc c3,zc c4,zc c,zc c6,zc c7,zb c8]) ?_;exact no (by dsimp only;omega) (by dsimp only;omega) (by dsimp only;omega)
 have c9:x.PC=9:=by omega
 refine key _ (by unfold zu;rw [zc c01,zc c2,zc c3,zc c4,zc c,zc c6,zc c7,zc c8,zb c9]) ?_;exact no (by dsimp only;omega) (by dsimp only;omega) (by dsimp only;omega)
theorem PI.worker {p:zd}(hp:zD p) {nb k:Nat}{s:za}{gh:Gh}(hk:k<4294960000) (G:FG p nb k s gh) {W:Int->Int->Prop}(I:PI p s W) {w:Int}(hw:1<=w/\w<=p.Workers) (hd:s.Done=false):PI p (zK s w) W:=by
 obtain ⟨gh',G',F,x,hx,N,C,hbag,hT⟩:=G.worker hp hk hw hd;have hwl:=G.E.wl;have hsl:=hp.slots;have hi:(w-1).toNat<s.Ws.length:=(zJK.1 hx).1;have ei:(((w-1).toNat:Nat):Int)+1=w:=by omega
 have eS:zK s w={(zu s w x).1 with Ws:=s.Ws.set (w-1).toNat (zu s w x).2}:=by
  unfold zK;rw [zc (by rw [hd];rintro (e | e | e)<;>first | cases e | omega),hx]
 have hWX:=G.W _ x hx;have hWO:=G.E.W _ x hx;rw [ei] at hWX hWO;have hfr:=zkz (s:=s) hWO;have eH:(zK s w).H=s.H:=by rw [eS];show (zu s w x).1.H=_;rw [hfr]
 have eT:(zK s w).T=(zu s w x).1.T:=by rw [eS]
 have eX:(zK s w).Ms=s.Ms:=by rw [eS];show (zu s w x).1.Ms=_;rw [hfr]
 have eW:(zK s w).Ws=s.Ws.set (w-1).toNat (zu s w x).2:=by rw [eS]
 have mono:∀o,zI s.T.Marks o=true->zI (zK s w).T.Marks o=true:=fun o h=>F.mono h;obtain ⟨sl1,sl2⟩:=zDN (s:=s) (w:=w) G.E.H.slots hsl hWO (I.sw _ x hx);have here:(zK s w).Ws[(w-1).toNat]? =some (zu s w x).2:=by rw [eW];exact zKV hi
 have there:∀(i:Nat) y,i≠(w-1).toNat->s.Ws[i]? =some y->(zK s w).Ws[i]? =some y:=fun i y hne h=>by rw [eW,zKc (fun e=>hne e.symm)];exact h
 have back:∀(i:Nat) y,(zK s w).Ws[i]? =some y->(i=(w-1).toNat/\y=(zu s w x).2)\/(i≠(w-1).toNat/\s.Ws[i]? =some y):=fun i y h=>by
  rw [eW] at h;by_cases hne:i=(w-1).toNat
  .subst hne;rw [zKV hi] at h;injection h with h;exact .inl ⟨rfl,h.symm⟩
  .rw [zKc (fun e=>hne e.symm)] at h;exact .inr ⟨hne,h⟩
 have P:zuP s (zK s w) W W:=by
  refine ⟨mono,fun o h=>?_,fun u j hW hj=>.inl ⟨hW,by rw [eH];exact hj,by rw [eH]⟩,fun u j hW hj hg hu=>?_,fun u j hW hj hm0 hm1=>?_⟩
  .rcases h with ⟨i,y,hy,h⟩ | ⟨i,y,hy,h⟩
   .by_cases hne:i=(w-1).toNat
    .subst hne;rw [hx] at hy;injection hy with hy;subst hy;rcases zFJ hWX G.B.blk h with h | h
     .right;left;exact ⟨_,_,here,h⟩
     .left;rw [eT];exact h
    .right;left;exact ⟨i,y,there i y hne hy,h⟩
   .right;right;exact ⟨i,y,by rw [eX];exact hy,h⟩
  .have hpos:=Yf hj;have hrow:=zCT G.E hj;have htint:yh (zK s w).T u=1:=by
    rcases zvi G F hpos.1.2 hg with h | ⟨_,h⟩
    .exact h
    .exfalso;have hb:=((wY _ _).1 hg).2;have huu:=(yN s.T.Black (VN hg) u).2 (.inr rfl);rcases hT with ⟨_,_,e⟩ | ⟨_,_,_,_,e⟩ | ⟨_,_,c,e⟩
     .rw [eT,e] at h;have:=congrArg zm.Black h;exact absurd (by rw [this];exact huu) hb
     .rw [eT,e] at h;have:=congrArg zm.Black h;exact absurd (by rw [this];exact huu) hb
     .have hob:yh s.T x.Obj=1:=G.grey (zo4 hx (by unfold zW;rw [WI (.inr c)];simp));rw [eT,e] at h;unfold yX at h;rw [zb hob] at h;have hbb:s.T.Black|||bit x.Obj=s.T.Black|||bit u:=congrArg zm.Black h;rw [<-hbb] at huu;rcases WM huu with h2 | h2
      .exact hb h2
      .have hle:=hu.1 _ x hx (.inr (.inr c)) h2.symm;have:=(I.sw _ x hx).2.2 c;omega
   rcases sl2 u j hpos.2.1 (hu.1 _ x hx) with h | h | h
   .left;refine ⟨htint,fun i y hy=>?_,fun i y hy=>hu.2 i y (by rw [<-eX];exact hy)⟩;rcases back i y hy with ⟨_,rfl⟩ | ⟨_,hy⟩
    .exact h
    .exact hu.1 i y hy
   .exact .inr (.inl h)
   .exact .inr (.inr (.inr (.inl ⟨_,_,here,h⟩)))
  .have hpos:=Yf hj;refine ⟨ztm G F hpos.1.2 hm0 hm1,fun i y hy hpc ho=>?_,fun i y hy hpc ho=>?_⟩
   .rcases back i y hy with ⟨_,rfl⟩ | ⟨_,hy⟩
    .exfalso;rcases hT with ⟨_,_,e⟩ | ⟨_,_,c,_,e⟩ | ⟨_,_,c,e⟩
     .rw [eT,e] at hm1;exact hm0 hm1
     .have h3:(zu s w x).2.Obj=x.Obj:=by rw [zBl c];dsimp only;split<;>rfl
      exact hm0 (by rw [<-ho,h3];exact zwL G hx (.inr (.inl c)))
     .rw [eT,e,(zkJ _ _).1] at hm1;exact hm0 hm1
    .exact absurd (ho▸zwL G hy hpc) hm0
   .rw [eX] at hy;exact absurd (ho▸zwG G hy hpc) hm0
 refine ⟨fun o ho=>?_,fun i y hy=>?_,fun i y hy=>I.sx i y (by rw [<-eX];exact hy),fun i y hy hW=>?_⟩
 .have h0:o≠0:=by have:=ho.in;omega
  rcases I.lv o ho with h | h
  .exact .inl (mono o h)
  .exact P.prot h h0
 .rcases back i y hy with ⟨_,rfl⟩ | ⟨_,hy⟩
  .exact sl1
  .exact I.sw i y hy
 .rw [eX] at hy;obtain ⟨a,b⟩:=I.cv i y hy hW;rw [eH];exact ⟨a,fun e=>(b e).imp id (fun h=>h.imp (mono _) id)⟩
theorem PI.same {p:zd}{s s':za}{W:Int->Int->Prop}(I:PI p s W) (eH:s'.H=s.H) (eT:s'.T=s.T) (eW:s'.Ws=s.Ws) (eX:s'.Ms=s.Ms):PI p s' W:=by
 have us:∀u j,US s u j->US s' u j:=fun u j h=>⟨fun i x hx=>h.1 i x (by rw [<-eW];exact hx),fun i x hx=>h.2 i x (by rw [<-eX];exact hx)⟩
 have pd:∀o,zlE s o->zlE s' o:=fun o h=>by
  rcases h with ⟨i,x,hx,h⟩ | ⟨i,x,hx,h⟩
  .exact .inl ⟨i,x,by rw [eW];exact hx,h⟩
  .exact .inr ⟨i,x,by rw [eX];exact hx,h⟩
 have P:zuP s s' W W:=⟨fun o h=>by rw [eT];exact h,fun o h=>.inr (pd o h),fun u j hW hj=>.inl ⟨hW,by rw [eH];exact hj,by rw [eH]⟩,fun u j _ _ hg hu=>.inl ⟨by rw [eT];exact hg,us u j hu⟩,fun u j _ _ h1 h2=>by rw [eT] at h2;exact absurd h2 h1⟩
 refine ⟨fun o ho=>?_,fun i x hx=>I.sw i x (by rw [<-eW];exact hx),fun i x hx=>I.sx i x (by rw [<-eX];exact hx),fun i x hx hW=>?_⟩
 .have h0:o≠0:=by have:=ho.in;omega
  rcases I.lv o ho with h | h
  .exact .inl (by rw [eT];exact h)
  .exact P.prot h h0
 .obtain ⟨a,b⟩:=I.cv i x (by rw [<-eX];exact hx) hW;rw [eH,eT];exact ⟨a,b⟩
theorem PI.det {p:zd}{s:za}{W:Int->Int->Prop}(I:PI p s W):PI p (xL s) W:=by
 have hd:=zir s;exact I.same (by conv=>rhs;rw [<-hd]) (by conv=>rhs;rw [<-hd]) (by conv=>rhs;rw [<-hd]) (by conv=>rhs;rw [<-hd])
theorem zGA {p:zd}(hp:zD p) {nb k:Nat}{s:za}{gh:Gh}{W:Int->Int->Prop}(hk:k<2147480000) (I:EG p nb k s gh) (J:PI p s W) (j:Int):∃gh' W',EG p nb (k+1) (Yi s j) gh'/\PI p (Yi s j) W'/\zav s (Yi s j):=by
 obtain ⟨gh',I',F⟩:=I.next hp hk j;have fin:(∃W',PI p (Yi s j) W')->∃gh' W',EG p nb (k+1) (Yi s j) gh'/\PI p (Yi s j) W'/\zav s (Yi s j):=fun ⟨W',h⟩=>⟨gh',W',I',h,F⟩
 refine fin ?_;cases hd:s.Done with
 | true=>rw [zh4 hd];exact ⟨W,J⟩
 | false =>
  have hwl:=I.G.E.wl;have hml:=I.G.E.ml;unfold Yi;split
  .exact ⟨W,J.det⟩
  split
  .by_cases h1:1<=j
   .exact ⟨W,PI.worker hp (by omega) I.G J (by omega) hd⟩
   .have:zK s j=s:=by unfold zK;rw [zb (.inr (.inl (by omega)))]
    rw [this];exact ⟨W,J⟩
  .by_cases h1:1<=j-(s.Ws.length:Int)/\j-(s.Ws.length:Int)<=(s.Ms.length:Int)
   .exact PI.mutator hp (by omega) I.G J (by omega) hd
   .have:zH s (j-(s.Ws.length:Int))=s:=by unfold zH;rw [zY]
    rw [this];exact ⟨W,J⟩
theorem zER (a b:List Int) (h:a.length<1000000):Vr a b=some (decide (a=b),()):=by
 rw [zje,ya];by_cases hl:a.length=b.length;rotate_left
 .rw [zi,decide_eq_false (fun e=>hl (by rw [e]))]
 rw [zY];obtain ⟨o,e,ho⟩:=wS (f:=XH) (fun c=>∃i:Nat,i<=a.length/\c=(a,b,(a.length:Int),(i:Int),())/\(a=b↔a.drop i=b.drop i)) (fun c=>a.length-c.2.2.2.1.toNat) (fun o=>(o= .brk ()/\a=b)\/(o= .ret (false,())/\a≠b)) (by
  rintro _ ⟨i,hi,rfl,h⟩;rw [zgb,zo];by_cases c1:(i:Int)<(a.length:Int)
  .have hx:=zJC (show i<a.length by omega);have hy:=zJC (show i<b.length by omega);have dx:=zKg (show i<a.length by omega);have dy:=zKg (show i<b.length by omega);generalize a[i]'(by omega)=x at hx dx;generalize b[i]'(by omega)=y at hy dy;rw [dx,dy,List.cons.injEq] at h;rw [zb c1,yZ hx,zJA,yZ hy,zJA,ya];by_cases c2:x=y
   .rw [zb c2,yH];refine ⟨_,rfl,⟨i+1,by omega,rfl,h.trans ⟨fun e=>e.2,fun e=>⟨c2,e⟩⟩⟩,?_⟩;show a.length-((i+1:Nat):Int).toNat<a.length-(i:Int).toNat;omega
   .rw [zc c2];exact ⟨_,rfl,.inr ⟨rfl,fun e=>c2 (h.1 e).1⟩⟩
  .rw [zc c1];have:i=a.length:=by omega
   refine ⟨_,rfl,.inl ⟨rfl,h.2 ?_⟩⟩;rw [zLk (by omega),zLk (by omega)]) (a,b,(a.length:Int),0,()) ⟨0,by omega,rfl,Iff.rfl⟩ (by show a.length-0<18446744073709551616;omega)
 rw [e];rcases ho with ⟨rfl,h⟩ | ⟨rfl,h⟩
 .rw [decide_eq_true h];rfl
 .rw [decide_eq_false h];rfl
theorem zE8 (a b:List (List Int)) (h:a.length<1000000) (ha:∀x∈a,x.length<1000000):yY a b=some (decide (a=b),()):=by
 rw [u7,ya];by_cases hl:a.length=b.length;rotate_left
 .rw [zi,decide_eq_false (fun e=>hl (by rw [e]))]
 rw [zY];obtain ⟨o,e,ho⟩:=wS (f:=yO) (fun c=>∃i:Nat,i<=a.length/\c=(b,a,(a.length:Int),(i:Int),())/\(a=b↔a.drop i=b.drop i)) (fun c=>a.length-c.2.2.2.1.toNat) (fun o=>(o= .brk ()/\a=b)\/(o= .ret (false,())/\a≠b)) (by
  rintro _ ⟨i,hi,rfl,h⟩;rw [uN,zo];by_cases c1:(i:Int)<(a.length:Int)
  .have hx:=zJC (show i<a.length by omega);have hy:=zJC (show i<b.length by omega);have dx:=zKg (show i<a.length by omega);have dy:=zKg (show i<b.length by omega);have hm:=ha _ (zJY (show i<a.length by omega));generalize a[i]'(by omega)=x at hx dx hm;generalize b[i]'(by omega)=y at hy dy;rw [dx,dy,List.cons.injEq] at h;rw [zb c1,yZ hx,zJA,yZ hy,zJA,zER x y hm,zJA];dsimp only;rw [ya];by_cases c2:x=y
   .rw [zb c2,yH];refine ⟨_,rfl,⟨i+1,by omega,rfl,h.trans ⟨fun e=>e.2,fun e=>⟨c2,e⟩⟩⟩,?_⟩;show a.length-((i+1:Nat):Int).toNat<a.length-(i:Int).toNat;omega
   .rw [zc c2];exact ⟨_,rfl,.inr ⟨rfl,fun e=>c2 (h.1 e).1⟩⟩
  .rw [zc c1];have:i=a.length:=by omega
   refine ⟨_,rfl,.inl ⟨rfl,h.2 ?_⟩⟩;rw [zLk (by omega),zLk (by omega)]) (b,a,(a.length:Int),0,()) ⟨0,by omega,rfl,Iff.rfl⟩ (by show a.length-0<18446744073709551616;omega)
 rw [e];rcases ho with ⟨rfl,h⟩ | ⟨rfl,h⟩
 .rw [decide_eq_true h];rfl
 .rw [decide_eq_false h];rfl
theorem zyl (a b:zq) (h:a.Objs.length<1000000) (ha:∀x∈a.Objs,x.length<1000000):zhu a b=some (decide (a.Slots=b.Slots)&&decide (a.Objs=b.Objs),()):=by
 rw [zxe,zE8 _ _ h ha,zJA];cases decide (a.Slots=b.Slots)<;>rfl
def Ye (k:Int):List Int->List Int->Int×Int->Int×Int
 | x::l,y::m,r=>Ye k l m (if x=y then r else (k+1,r.2+1))
 | _,_,r=>r
def zcM:Int->List (List Int)->List (List Int)->Int×Int->Int×Int
 | k,x::l,y::m,r=>zcM (k+1) l m (Ye k x y r)
 | _,_,_,r=>r
theorem zpG (k:Int):∀(l m:List Int) (r:Int×Int),r.2<=(Ye k l m r).2/\(Ye k l m r).2<=r.2+(l.length:Int)
 | x::l,y::m,r=>by
  rw [Ye,zJS];by_cases h:x=y
  .rw [zb h];have:=zpG k l m r;omega
  .rw [zc h];have h1:r.2+1<=(Ye k l m (k+1,r.2+1)).2:=(zpG k l m (k+1,r.2+1)).1;have h2:(Ye k l m (k+1,r.2+1)).2<=r.2+1+(l.length:Int):=(zpG k l m (k+1,r.2+1)).2;omega
 | [],_,r=>by unfold Ye;simp
 | x::l,[],r=>by
  have h:Ye k (x::l) [] r=r:=rfl;rw [h,zJS];omega
theorem zBZ {o n k:Int}{A:List (List Int)}{N:Int}{x y:List Int}{b:zq}(hk:0<=k/\k<1000000) (hn:0<=n/\n<1000000000) (hy:idx b.Objs k=some y) (hl:x.length=y.length) (hx:x.length<1000) :
  zX Uv (o,n,k,A,N,k,x,(x.length:Int),0,b,())=some (.brk ((Ye k x y (o,n)).1,(Ye k x y (o,n)).2,A,N,k,b,())):=by
 obtain ⟨q,e,ho⟩:=wS (f:=Uv) (fun a=>∃(i:Nat) (r:Int×Int),i<=x.length/\a=(r.1,r.2,k,A,N,k,x,(x.length:Int),(i:Int),b,())/\Ye k x y (o,n)=Ye k (x.drop i) (y.drop i) r/\0<=r.2/\r.2<=n+(i:Int)) (fun a=>x.length-a.2.2.2.2.2.2.2.2.1.toNat) (fun s=>s= .brk ((Ye k x y (o,n)).1,(Ye k x y (o,n)).2,A,N,k,b,())) (by
  rintro _ ⟨i,r,hi,rfl,h,r1,r2⟩;rw [zpI,zo];by_cases c1:(i:Int)<(x.length:Int)
  .have h1:=zJC (show i<x.length by omega);have h2:=zJC (show i<y.length by omega);have d1:=zKg (show i<x.length by omega);have d2:=zKg (show i<y.length by omega);generalize x[i]'(by omega)=u at h1 d1;generalize y[i]'(by omega)=v at h2 d2;rw [d1,d2] at h;rw [zb c1,yZ h1,zJA,hy,zJA,yZ h2,zJA,ya,yH,zU (a:=k+1) (by omega) (by omega),zU (a:=r.2+1) (by omega) (by omega)];by_cases c2:u=v
   .rw [zb c2];refine ⟨_,rfl,⟨i+1,r,by omega,rfl,?_,r1,by omega⟩,?_⟩
    .rw [h];show Ye k (u::x.drop (i+1)) (v::y.drop (i+1)) r=_;rw [Ye,zb c2]
    .show x.length-((i+1:Nat):Int).toNat<x.length-(i:Int).toNat;omega
   .rw [zc c2];refine ⟨_,rfl,⟨i+1,(k+1,r.2+1),by omega,rfl,?_,by dsimp only;omega,by dsimp only;omega⟩,?_⟩
    .rw [h];show Ye k (u::x.drop (i+1)) (v::y.drop (i+1)) r=_;rw [Ye,zc c2]
    .show x.length-((i+1:Nat):Int).toNat<x.length-(i:Int).toNat;omega
  .rw [zc c1];refine ⟨_,rfl,?_⟩;rw [h,zLk (by omega)];rfl) (o,n,k,A,N,k,x,(x.length:Int),0,b,()) ⟨0,(o,n),by omega,rfl,rfl,hn.1,by omega⟩ (by show x.length-0<18446744073709551616;omega)
 rw [e,ho]
def YR (a b:zq):Int:=if a.Slots=b.Slots/\a.Objs.length=b.Objs.length then (if (zcM 0 a.Objs b.Objs (0,0)).2=1 then (zcM 0 a.Objs b.Objs (0,0)).1 else 0) else 0
theorem zCk {a b:zq}(ha:a.Objs.length<=64) (h1:∀x∈a.Objs,(x.length:Int)=a.Slots) (h2:∀x∈b.Objs,(x.length:Int)=b.Slots) (hs:a.Slots<=4):VC a b=some (YR a b,()):=by
 rw [zuA,ya];unfold YR;by_cases c1:a.Slots=b.Slots;rotate_left
 .rw [zc c1,zc (fun e=>c1 e.1)]
 rw [zb c1,ya];by_cases c2:a.Objs.length=b.Objs.length;rotate_left
 .rw [zi,zc (fun e=>c2 e.2)]
 rw [zY,zb ⟨c1,c2⟩];obtain ⟨q,e,ho⟩:=wS (f:=zdS) (fun c=>∃(i:Nat) (r:Int×Int),i<=a.Objs.length/\c=(r.1,r.2,a.Objs,(a.Objs.length:Int),(i:Int),b,())/\zcM 0 a.Objs b.Objs (0,0)=zcM (i:Int) (a.Objs.drop i) (b.Objs.drop i) r/\0<=r.2/\r.2<=4*(i:Int)) (fun c=>a.Objs.length-c.2.2.2.2.1.toNat) (fun s=>s= .brk ((zcM 0 a.Objs b.Objs (0,0)).1,(zcM 0 a.Objs b.Objs (0,0)).2,())) (by
  rintro _ ⟨i,r,hi,rfl,h,r1,r2⟩;rw [zqC,zo];by_cases c:(i:Int)<(a.Objs.length:Int)
  .have g1:=zJC (show i<a.Objs.length by omega);have g2:=zJC (show i<b.Objs.length by omega);have d1:=zKg (show i<a.Objs.length by omega);have d2:=zKg (show i<b.Objs.length by omega);have l1:=h1 _ (zJY (show i<a.Objs.length by omega));have l2:=h2 _ (zJY (show i<b.Objs.length by omega));generalize a.Objs[i]'(by omega)=x at g1 d1 l1;generalize b.Objs[i]'(by omega)=y at g2 d2 l2;rw [d1,d2] at h;have hlow:=zpG (i:Int) x y r;rw [zb c,yZ g1,zJA,yZ g2,zJA,ya,zY,zBZ (by omega) (by omega) (yZ g2) (by omega) (by omega),zJA];dsimp only;rw [yH];refine ⟨_,rfl,⟨i+1,Ye (i:Int) x y (r.1,r.2),by omega,rfl,?_,?_,?_⟩,?_⟩
   .rw [h,show ((i+1:Nat):Int)=(i:Int)+1 by omega];rfl
   .show 0<=(Ye (i:Int) x y r).2;omega
   .show (Ye (i:Int) x y r).2<=4*((i+1:Nat):Int);omega
   .show a.Objs.length-((i+1:Nat):Int).toNat<a.Objs.length-(i:Int).toNat;omega
  .rw [zc c];refine ⟨_,rfl,?_⟩;rw [h,zLk (by omega)];rfl) (0,0,a.Objs,(a.Objs.length:Int),0,b,()) ⟨0,(0,0),by omega,rfl,rfl,by decide,by decide⟩ (by show a.Objs.length-0<18446744073709551616;omega)
 rw [e,ho,zJA];dsimp only;rw [ya];split<;>rfl
theorem zmT (k:Int):∀(l:List Int) (r:Int×Int),Ye k l l r=r
 | [],r=>rfl
 | x::l,r=>by rw [Ye,zb rfl,zmT k l r]
theorem zpB:∀(l:List (List Int)) (k:Int) (r:Int×Int),zcM k l l r=r
 | [],k,r=>rfl
 | x::l,k,r=>by rw [zcM,zmT,zpB l]
theorem zzW (k:Int) {v:Int}:∀(l:List Int) (i:Nat) (r:Int×Int),i<l.length->l.getD i 0≠v->Ye k l (l.set i v) r=(k+1,r.2+1)
 | [],i,r,h,_=>by simp at h
 | x::l,0,r,_,hv=>by
  have hv:x≠v:=by simpa using hv
  rw [List.set_cons_zero,Ye,zc hv,zmT]
 | x::l,i+1,r,h,hv=>by
  rw [List.set_cons_succ,Ye,zb rfl];exact zzW k l i r (by simpa using h) (by simpa using hv)
theorem zyJ {y:List Int}:∀(l:List (List Int)) (j:Nat) (k:Int) (r:Int×Int),j<l.length->zcM k l (l.set j y) r=Ye (k+(j:Int)) (l.getD j []) y r
 | [],j,k,r,h=>by simp at h
 | x::l,0,k,r,_=>by
  rw [List.set_cons_zero,zcM,zpB];simp
 | x::l,j+1,k,r,h=>by
  rw [List.set_cons_succ,zcM,zmT,zyJ l j (k+1) r (by simpa using h)];congr 1
  .omega
theorem zCc {h:zq}{o i v:Int}(hs:yj h o i=true) (hv:zN h o i≠v) (hp:xr h o i v={h with Objs:=h.Objs.set (o-1).toNat ((zF h o).set i.toNat v)}):YR h (xr h o i v)=o/\(xr h o i v).Objs≠h.Objs:=by
 have hb:=hs;unfold yj at hb;simp only [zJB,decide_eq_true_eq] at hb;obtain ⟨⟨⟨b1,b2⟩,b3⟩,b4⟩:=hb;have hg:zN h o i=(zF h o).getD i.toNat 0:=by unfold zN;rw [zb hs]
 rw [hg] at hv;have key:zcM 0 h.Objs (xr h o i v).Objs (0,0)=(o,1):=by
  rw [hp];dsimp only;rw [zyJ _ _ _ _ (by omega)];show Ye (0+((o-1).toNat:Int)) (zF h o) ((zF h o).set i.toNat v) (0,0)=_;rw [zzW _ _ _ _ (by omega) hv];congr 1;omega
 have hlen:h.Objs.length=(xr h o i v).Objs.length:=by rw [hp];simp
 refine ⟨?_,fun e=>?_⟩
 .unfold YR;rw [zb ⟨by rw [hp],hlen⟩,key,zb rfl]
 .rw [e,zpB] at key;cases key
def YC (a b:za):Int×Int :=
 if a.H.Slots=b.H.Slots/\a.H.Objs=b.H.Objs then (if (wQ a.T b.T).1<0\/2<(wQ a.T b.T).1 then (-1,0) else wQ a.T b.T)
 else if (a.H.Objs.length<64/\(wQ a.T b.T).1=3/\(wQ a.T b.T).2=(a.H.Objs.length:Int)+1)/\(yB a.H).Slots=b.H.Slots/\(yB a.H).Objs=b.H.Objs then (3,(wQ a.T b.T).2)
 else if (wQ a.T b.T).1=0/\0<YR a.H b.H then (4,YR a.H b.H) else (-1,0)
theorem zkZ {p:zd}(hp:zD p) {a b:za}(ha:HOk p a.H) (hb:HOk p b.H):zaA a b=some ((YC a b).1,(YC a b).2,()):=by
 have hs:=hp.slots;have hn:=hp.n;have hmo:=hp.most;have a1:=ha.n;have b1:=hb.n;have sa:=ha.slots;have sm:∀x∈a.H.Objs,x.length<1000000:=fun x hx=>by have:=(ha.objs x hx).1;omega
 have hne:a.H.Objs≠[]:=fun e=>by
  have h:=congrArg List.length e;have h:a.H.Objs.length=0:=h;omega
 have hroom:Zz a.H 64=true:=by unfold Zz;simp;omega
 have sm2:∀x∈(yB a.H).Objs,x.length<1000000:=fun x hx=>by
  rcases zJZ.1 (show x∈a.H.Objs++[List.replicate a.H.Slots.toNat 0] from hx) with hx | hx
  .exact sm x hx
  .rw [zKm.1 hx,zKf];omega
 have hw:=zCk (a:=a.H) (b:=b.H) (by omega) (fun x hx=>(ha.objs x hx).1) (fun x hx=>(hb.objs x hx).1) (by omega);rw [zze,zzK,zJA,zyl _ _ (by omega) sm,zJA,zwy ⟨by omega,by omega⟩ (by omega) ha.objs hne,zb hroom];dsimp only;unfold YC;generalize hk:(wQ a.T b.T).1=k;generalize ho:(wQ a.T b.T).2=o;have hko:wQ a.T b.T=(k,o):=by rw [<-hk,<-ho]
 by_cases c1:a.H.Slots=b.H.Slots/\a.H.Objs=b.H.Objs
 .rw [decide_eq_true c1.1,decide_eq_true c1.2,Bool.and_self,cond_true,zb c1,zo];by_cases k1:k<0
  .rw [zb k1,zb (.inl k1)]
  rw [zc k1,zo];by_cases k2:2<k
  .rw [zb k2,zb (.inr k2)]
  .rw [zc k2,zi,hko]
 .have e1:(decide (a.H.Slots=b.H.Slots)&&decide (a.H.Objs=b.H.Objs))=false:=by
   rw [Bool.eq_false_iff];intro e;simp only [zJB,decide_eq_true_eq] at e;exact c1 e
  rw [e1,cond_false,zc c1,zJA];dsimp only;rw [decide_eq_true rfl,cond_true,zyl _ _ (by rw [ZT];omega) sm2,zJA,hw,zJA];dsimp only;have fin:(bif decide (k=0) then (bif decide (0<YR a.H b.H) then some (4,YR a.H b.H,()) else some (-1,0,())) else some (-1,0,()):Option (Int×Int×Unit))=some ((if k=0/\0<YR a.H b.H then ((4:Int),YR a.H b.H) else (-1,0)).1,(if k=0/\0<YR a.H b.H then ((4:Int),YR a.H b.H) else (-1,0)).2,()):=by
   rw [zo,zo];by_cases k0:k=0
   .by_cases w0:0<YR a.H b.H
    .rw [zb k0,zb w0,zb ⟨k0,w0⟩]
    .rw [zb k0,zc w0,zc (fun e=>w0 e.2)]
   .rw [zc k0,zc (fun e=>k0 e.1)]
  rw [fin,zo,zo];by_cases k3:k=3
  .rw [zb k3];by_cases o3:o=(a.H.Objs.length:Int)+1
   .rw [zb o3];by_cases c2:(yB a.H).Slots=b.H.Slots/\(yB a.H).Objs=b.H.Objs
    .rw [decide_eq_true c2.1,decide_eq_true c2.2,Bool.and_self,cond_true,zb ⟨⟨by omega,k3,o3⟩,c2⟩]
    .have e2:(decide ((yB a.H).Slots=b.H.Slots)&&decide ((yB a.H).Objs=b.H.Objs))=false:=by
      rw [Bool.eq_false_iff];intro e;simp only [zJB,decide_eq_true_eq] at e;exact c2 e
     have n3: ¬((a.H.Objs.length<64/\k=3/\o=(a.H.Objs.length:Int)+1)/\(yB a.H).Slots=b.H.Slots/\(yB a.H).Objs=b.H.Objs):=fun e=>c2 e.2;rw [e2,cond_false,zc n3]
   .have n3: ¬((a.H.Objs.length<64/\k=3/\o=(a.H.Objs.length:Int)+1)/\(yB a.H).Slots=b.H.Slots/\(yB a.H).Objs=b.H.Objs):=fun e=>o3 e.1.2.2;rw [zc o3,zc n3]
  .have n3: ¬((a.H.Objs.length<64/\k=3/\o=(a.H.Objs.length:Int)+1)/\(yB a.H).Slots=b.H.Slots/\(yB a.H).Objs=b.H.Objs):=fun e=>k3 e.1.2.1;rw [zc k3,zc n3]
inductive zHk (s s':za):Prop
 | none (h1:s'.T=s.T) (h2:s'.H=s.H)
 | shade (o:Int) (hr:1<=o/\o<=64) (hm: ¬zI s.T.Marks o=true) (hT:s'.T={s.T with Marks:=s.T.Marks|||bit o}) (hH:s'.H=s.H) (hp:zlE s o)
 | scan (o:Int) (hg:yh s.T o=1) (hT:s'.T={s.T with Black:=s.T.Black|||bit o}) (hH:s'.H=s.H)
 | alloc (hH:s'.H=yB s.H) (hl:(s.H.Objs.length:Int)<9) (hT:s'.T=⟨s.T.Marks|||bit ((s.H.Objs.length:Int)+1),s.T.Black|||bit ((s.H.Objs.length:Int)+1)⟩)
 | write (o i v:Int) (hs:yj s.H o i=true) (hv:zN s.H o i≠v) (hT:s'.T=s.T) (hH:s'.H=xr s.H o i v) (hp:xr s.H o i v={s.H with Objs:=s.H.Objs.set (o-1).toNat ((zF s.H o).set i.toNat v)})
theorem zyS {t:zm}{n:Int}(hn:1<=n/\n<=64) (nm: ¬zI t.Marks n=true) (nb: ¬zI t.Black n=true):wQ t ⟨t.Marks|||bit n,t.Black|||bit n⟩=(3,n):=by
 have hne:t≠⟨t.Marks|||bit n,t.Black|||bit n⟩:=fun e=>nm (by rw [e];exact (xQ _ _ _).2 (.inr (by have:=(yN 0#64 hn n).2 (.inr rfl);simpa using this)));have hb0:t.Black≠t.Black|||bit n:=fun e=>nb (by rw [e];exact (yN _ hn _).2 (.inr rfl));have hm0:t.Marks≠t.Marks|||bit n:=fun e=>nm (by rw [e];exact (yN _ hn _).2 (.inr rfl));have no1:∀q,¬((shade t q).2=true/\(shade t q).1=⟨t.Marks|||bit n,t.Black|||bit n⟩):=fun q e=>by
  rw [(zcI e.1).1] at e;exact hb0 (congrArg zm.Black e.2)
 have no2:∀q,¬(yh t q=1/\yX t q=⟨t.Marks|||bit n,t.Black|||bit n⟩):=fun q e=>by
  have:=congrArg zm.Marks e.2;rw [(zkJ t q).1] at this;exact hm0 this
 have yes:(uX t n).2=true/\(uX t n).1=⟨t.Marks|||bit n,t.Black|||bit n⟩:=by
  unfold uX;have hs:=zA0 hn nm nb;have ht1:yh {t with Marks:=t.Marks|||bit n} n=1:=(wY _ _).2 ⟨(yN _ hn _).2 (.inr rfl),nb⟩;rw [hs];dsimp only;rw [zb rfl];refine ⟨decide_eq_true ht1,?_⟩;dsimp only;unfold yX;rw [zb ht1]
 unfold wQ;rw [zc hne];rw [zm9 (j:=(n-1).toNat) (r:=(3,n)) (zJ1.2 (by omega)) (fun i hi hj=>?_) ?_]
 .rfl
 .unfold zbs;rw [zc (no1 _),zc (no2 _),show (((n-1).toNat:Nat):Int)+1=n by omega,zb yes]
 .unfold zbs;rw [zc (no1 _),zc (no2 _),zc];rintro ⟨e1,e2⟩;unfold uX at e1 e2;split at e1
  .rename_i hsh;rw [zb hsh] at e2;have hsm:=zcI hsh;have:=congrArg zm.Marks e2;dsimp only at this;rw [(zkJ _ _).1,hsm.1] at this;have:=zBL (fun h=>hm0 h.symm) this;have hi:=zJ1.1 hi;omega
  .cases e1
theorem zEu {h:zq}{o i:Int}(hs:yj h o i=true):1<=o:=by
 unfold yj at hs;simp only [zJB,decide_eq_true_eq] at hs;exact hs.1.1.1
theorem zHO {p:zd}(hp:zD p) {nb k:Nat}{s s':za}{gh:Gh}(G:FG p nb k s gh) (K:zHk s s') :
  (YC s s'=(0,0)/\s'.T=s.T/\s'.H=s.H)\/(∃o,YC s s'=(1,o)/\1<=o/\yh s.T o=0/\yh s'.T o=1/\s'.H=s.H/\zlE s o)\/(∃o,YC s s'=(2,o)/\1<=o/\yh s.T o=1/\yh s'.T o=2/\s'.H=s.H) \/
  (YC s s'=(3,(s.H.Objs.length:Int)+1)/\s'.H=yB s.H/\yh s'.T ((s.H.Objs.length:Int)+1)=2)\/(∃o,YC s s'=(4,o)/\1<=o/\s'.T=s.T/\s'.H.Objs.length=s.H.Objs.length/\s'.H.Objs≠s.H.Objs):=by
 have hN:=G.E.H.n;have hn:=hp.n;have hmo:=hp.most;cases K with
 | none h1 h2 =>
  refine .inl ⟨?_,h1,h2⟩;unfold YC;rw [h2,zb ⟨rfl,rfl⟩,h1,zrA,zc (by decide)]
 | shade o hr hm hT hH hpd =>
  have nb: ¬zI s.T.Black o=true:=fun h=>hm (G.B.blk _ h);refine .inr (.inl ⟨o,?_,hr.1,?_,?_,hH,hpd⟩)
  .unfold YC;rw [hH,zb ⟨rfl,rfl⟩,hT,zyW hr hm nb,zc (show ¬((1:Int)<0\/2<(1:Int)) by decide)]
  .unfold yh;rw [zc (fun h=>hm ((ui _ _ _).1 h).1),zc hm]
  .rw [hT];exact (wY _ _).2 ⟨(yN _ hr _).2 (.inr rfl),nb⟩
 | scan o hg hT hH =>
  have hr:=VN hg;refine .inr (.inr (.inl ⟨o,?_,hr.1,hg,?_,hH⟩))
  .unfold YC;rw [hH,zb ⟨rfl,rfl⟩,hT,zAP hg hr,zc (show ¬((2:Int)<0\/2<(2:Int)) by decide)]
  .rw [hT];exact (zHl _ _).2 ⟨((wY _ _).1 hg).1,(yN _ hr _).2 (.inr rfl)⟩
 | alloc hH hl hT =>
  have nm: ¬zI s.T.Marks ((s.H.Objs.length:Int)+1)=true:=fun e=>by have:=G.mrk _ e;omega
  have nb: ¬zI s.T.Black ((s.H.Objs.length:Int)+1)=true:=fun e=>nm (G.B.blk _ e);have hbt:=zyS (t:=s.T) (n:=(s.H.Objs.length:Int)+1) (by omega) nm nb;refine .inr (.inr (.inr (.inl ⟨?_,hH,?_⟩)))
  .unfold YC;rw [zc (fun e=>by have:=congrArg List.length e.2;rw [hH,ZT] at this;omega),hT,hbt,hH,zb ⟨⟨by omega,rfl,rfl⟩,rfl,rfl⟩]
  .rw [hT];exact (zHl _ _).2 ⟨(yN _ (by omega) _).2 (.inr rfl),(yN _ (by omega) _).2 (.inr rfl)⟩
 | write o i v hs hv hT hH hput =>
  obtain ⟨w1,w2⟩:=zCc hs hv hput;have ho:=zEu hs;refine .inr (.inr (.inr (.inr ⟨o,?_,ho,hT,by rw [hH,VA],by rw [hH];exact w2⟩)));unfold YC;rw [zc (fun e=>by rw [hH] at e;exact w2 e.2.symm),hT,zrA,zc (fun e=>by have:=e.1.2.1;cases this),hH,w1,zb ⟨rfl,by omega⟩]
theorem zF9 (s:za) (w:Int) (x:zk):(zu s w x).1.L=if x.PC=8 then zcF s.L 0 else s.L:=by
 by_cases h8:x.PC=8
 .rw [zb h8];unfold zu;rw [zi,zi,zi,zi,zi,zi,zi,zb h8]
 .rw [zc h8];unfold zu;split
  .rfl
  split
  .rfl
  split
  .rfl
  split
  .rfl
  split
  .rfl
  split
  .obtain ⟨m,b,t,wk,f,e,_⟩:=ze0 s x.G;dsimp only;rw [e]
  split
  .rfl
  split<;>rfl
theorem zC0 (s:za) (m:Int) (x:ze) :
  (x.PC=38/\(zp s m x).1.L=zcF s.L m) \/
  (x.PC≠38/\(zp s m x).1.H.Objs.length=s.H.Objs.length/\((zp s m x).1.L=s.L\/∃w,(zp s m x).1.L=(zbI s.L m w).1)) \/
  (x.PC=30/\(zp s m x).1.H=yB s.H/\(zp s m x).1.L=zb4 s.L m s.P.Price/\zdY s.L m s.P.Price s.P.Limit=true/\Zz s.H s.P.Most=true):=by
 by_cases c38:x.PC=38
 .refine .inl ⟨c38,?_⟩;unfold zp;rw [zi,zi,zi,zi,zi,zi,zi,zi,zi,zi,zi,zi,zi,zi,zi,zi,zi,zb c38];rfl
 refine .inr ?_;refine xG (motive:=fun r=>(x.PC≠38/\r.1.H.Objs.length=s.H.Objs.length/\(r.1.L=s.L\/∃w,r.1.L=(zbI s.L m w).1))\/(x.PC=30/\r.1.H=yB s.H/\r.1.L=zb4 s.L m s.P.Price/\zdY s.L m s.P.Price s.P.Limit=true/\Zz s.H s.P.Most=true)) s m x ?_ ?_ ?_ ?_ ?_ ?_ ?_ ?_ ?_ ?_ ?_ ?_ ?_ ?_ ?_ ?_ ?_ ?_ ?_ ?_
 .exact fun _=>.inl ⟨c38,rfl,.inl rfl⟩
 .exact fun _=>.inl ⟨c38,rfl,.inl rfl⟩
 .exact fun _=>.inl ⟨c38,rfl,.inl rfl⟩
 .intro _;unfold mu3;exact .inl ⟨c38,by rw [vF],.inl (by rw [vF])⟩
 .exact fun _=>.inl ⟨c38,rfl,.inl rfl⟩
 .exact fun _=>.inl ⟨c38,rfl,.inl rfl⟩
 .exact fun _=>.inl ⟨c38,rfl,.inl rfl⟩
 .exact fun _=>.inl ⟨c38,rfl,.inl rfl⟩
 .exact fun _=>.inl ⟨c38,VA _ _ _ _,.inl rfl⟩
 .intro c;unfold Uo;split
  .split
   .rename_i h1 h2;exact .inr ⟨c,rfl,rfl,h1,h2⟩
   .exact .inl ⟨c38,rfl,.inl rfl⟩
  .exact .inl ⟨c38,rfl,.inl rfl⟩
 .exact fun _=>.inl ⟨c38,rfl,.inr ⟨_,rfl⟩⟩
 .exact fun _=>.inl ⟨c38,rfl,.inl rfl⟩
 .exact fun _=>.inl ⟨c38,rfl,.inl rfl⟩
 .exact fun _=>.inl ⟨c38,rfl,.inl rfl⟩
 .exact fun _=>.inl ⟨c38,rfl,.inl rfl⟩
 .exact fun _=>.inl ⟨c38,rfl,.inl rfl⟩
 .intro _;unfold zaI;exact .inl ⟨c38,by rw [vF],.inl (by rw [vF])⟩
 .exact fun c=>absurd c c38
 .exact fun _=>.inl ⟨c38,rfl,.inl rfl⟩
 .exact .inl ⟨c38,rfl,.inl rfl⟩
structure LdG (p:zd) (c d:Int) (l:zr):Prop where
 len:(l.Bal.length:Int)=p.Mutators
 sc:l.Scanned=c
 sp:l.Spent=p.Price*d
 pool:0<=l.Pool
 bal:∀b∈l.Bal,-p.Limit<=b
 sum:l.Pool+l.Bal.sum=c-p.Price*d
theorem zC4 {a:Int}(ha:0<=a):∀ {l:List Int},(∀b∈l,-a<=b)-> -(a*(l.length:Int))<=l.sum/\∀b∈l,b<=l.sum+a*(l.length:Int)
 | [],_=>⟨by simp,fun b hb=>by cases hb⟩
 | x::l,h=>by
  obtain ⟨i1,i2⟩:=zC4 ha (l:=l) (fun b hb=>h b (zJI _ hb));have hx:=h x (zJW ..);have e:a*((x::l).length:Int)=a*(l.length:Int)+a:=by rw [zJS,Int.natCast_add,Int.mul_add];simp
  rw [zKA,e];refine ⟨by omega,fun b hb=>?_⟩;rcases zJT.1 hb with rfl | hb
  .omega
  .have:=i2 b hb;omega
theorem LdG.low {p:zd}(hp:zD p) {c d:Int}(hc:0<=c/\c<=9) (hd:0<=d/\d<=9) {l:zr}(I:LdG p c d l):(0<=p.Price*d/\p.Price*d<=30)/\l.Pool<=20/\∀b∈l.Bal,-3<=b/\b<=20:=by
 have hl:=hp.limit;have hm:=hp.mt;have hpr:=zGH hp.price (d:=d) (by omega);obtain ⟨s1,s2⟩:=zC4 hl.1 I.bal;have hlen:=I.len;rw [hlen] at s1 s2;have hb:0<=p.Limit*p.Mutators/\p.Limit*p.Mutators<=6:=by
  refine ⟨Int.mul_nonneg hl.1 hm.1,?_⟩;have:=Int.mul_le_mul hl.2 hm.2 hm.1 (by decide:(0:Int)<=3);omega
 have hs:=I.sum;have hpo:=I.pool;refine ⟨hpr,by omega,fun b hb'=>?_⟩;have:=s2 b hb';have:=I.bal b hb';omega
theorem zwQ {l:List Int}{i:Nat}(h:i<l.length):l.getD i 0∈l:=by
 rw [zJD,zJC h];exact zJY h
theorem LdG.earn {p:zd}(hp:zD p) {c d:Int}(hc:0<=c/\c<=9) (hd:0<=d/\d<=9) {l:zr}(I:LdG p c d l) (w:Int):LdG p (c+1) d (zcF l w):=by
 obtain ⟨h1,h2,h3⟩:=I.low hp hc hd;have hs:=I.sc;have hsum:=I.sum;unfold zcF;rw [yT (a:=l.Scanned+1) (by omega) (by omega)];split
 .rename_i hw;have hm:=zwQ (l:=l.Bal) (i:=(w-1).toNat) (by omega);have hb:=h3 _ hm;have hb':=I.bal _ hm;rw [yT];refine ⟨by dsimp only;rw [zJ6];exact I.len,by dsimp only;omega,I.sp,I.pool,fun b h=>?_,?_⟩
  .rcases zKn h with h | rfl
   .exact I.bal b h
   .omega
  .dsimp only;rw [zoP _ _ _ (by omega)];omega
 .have hpo:=I.pool;rw [yT];exact ⟨I.len,by dsimp only;omega,I.sp,by dsimp only;omega,I.bal,by dsimp only;omega⟩
theorem LdG.take {p:zd}(hp:zD p) {c d:Int}(hc:0<=c/\c<=9) (hd:0<=d/\d<=9) {l:zr}(I:LdG p c d l) (m w:Int):LdG p c d (zbI l m w).1:=by
 obtain ⟨h1,h2,h3⟩:=I.low hp hc hd;have hsum:=I.sum;have hpo:=I.pool;unfold zbI;split
 .rename_i hw;obtain ⟨ht,h0⟩:=hw;unfold UM at ht;simp only [zJB,decide_eq_true_eq] at ht;have hmn:zjj w l.Pool<=l.Pool:=by unfold zjj;split<;>omega
  have hm:=zwQ (l:=l.Bal) (i:=(m-1).toNat) (by omega);have hb:=h3 _ hm;have hb':=I.bal _ hm;unfold zby;generalize zjj w l.Pool=n at h0 hmn;rw [yT (a:=l.Pool-n) (by omega) (by omega),yT];refine ⟨by dsimp only;rw [zJ6];exact I.len,I.sc,I.sp,by dsimp only;omega,fun b h=>?_,?_⟩
  .rcases zKn h with h | rfl
   .exact I.bal b h
   .omega
  .dsimp only;rw [zoP _ _ _ (by omega)];omega
 .exact I
theorem LdG.spend {p:zd}(hp:zD p) {c d:Int}(hc:0<=c/\c<=9) (hd:0<=d/\d<=9) {l:zr}(I:LdG p c d l) {m:Int}(h:zdY l m p.Price p.Limit=true):LdG p c (d+1) (zb4 l m p.Price):=by
 obtain ⟨h1,h2,h3⟩:=I.low hp hc hd;have hsum:=I.sum;have hpo:=I.pool;have hl:=hp.limit;have hpr:=hp.price;have e1:=I.sp;unfold zdY zbb UM at h;simp only [zJB,decide_eq_true_eq] at h;obtain ⟨⟨⟨⟨⟨⟨m1,m2⟩,_⟩,_⟩,_⟩,_⟩,h⟩:=h;have hm:=zwQ (l:=l.Bal) (i:=(m-1).toNat) (by omega);have hb:=h3 _ hm;unfold zby at h;rw [yT,yT] at h;unfold zb4 zby;rw [yT,yT];refine ⟨by dsimp only;rw [zJ6];exact I.len,I.sc,by dsimp only;rw [zyH hpr];omega,I.pool,fun b hb'=>?_,?_⟩
 .rcases zKn hb' with h2 | rfl
  .exact I.bal b h2
  .omega
 .dsimp only;rw [zoP _ _ _ (by omega),zyH hpr];omega
def Xg (p:zd) (s:za):BitVec 64:=s.T.Black&&&xz (p.H.Objs.length:Int)
structure PD (p:zd) (s:za):Prop where
 L:LdG p (cnt (Xg p s)) ((s.H.Objs.length:Int)-(p.H.Objs.length:Int)) s.L
theorem zD2 {p:zd}(hp:zD p) (s:za):∀o,zI (Xg p s) o=true->o<=9:=fun o ho=>by
 have hn:=hp.n;have:=(YY (n:=p.H.Objs.length) (by omega) o).1 ((ui _ _ _).1 ho).2;omega
theorem zvG (s:BitVec 64):0<=cnt s:=by
 unfold cnt;rw [zLb,zKF];have h1:(BitVec.ofInt 64 (zHj s).toInt).toNat&&&(BitVec.ofInt 64 127).toNat<=(BitVec.ofInt 64 127).toNat:=Nat.and_le_right;have h2:(BitVec.ofInt 64 127).toNat=127:=by decide
 split<;>omega
theorem zAM {p:zd}(hp:zD p) {nb k:Nat}{s:za}{gh:Gh}(G:FG p nb k s gh) {o:Int}(ho:yh s.T o=1) {t:zm}(ht:t=yX s.T o):cnt (t.Black&&&xz (p.H.Objs.length:Int))=cnt (Xg p s)+1:=by
 have hn:=hp.n;have hg:=(wY _ _).1 ho;have hr:=VN ho;have hle:=G.mrk o hg.1;have hold:o<=(p.H.Objs.length:Int):=Int.not_lt.1 fun h=>hg.2 (G.bk o h hle);have e:t.Black&&&xz (p.H.Objs.length:Int)=Xg p s|||bit o:=by
  subst ht;unfold yX Xg;rw [zb ho];refine zkP (fun q=>?_);rw [ui,xQ,xQ,ui];constructor
  .rintro ⟨a | a,b⟩
   .exact .inl ⟨a,b⟩
   .exact .inr a
  .rintro (⟨a,b⟩ | a)
   .exact ⟨.inl a,b⟩
   .have:=zAr a;subst this;exact ⟨.inr a,(YY (by omega) q).2 ⟨hr.1,hold⟩⟩
 rw [e];exact zFl (zD2 hp s) ⟨hr.1,by omega⟩ (fun h=>hg.2 ((ui _ _ _).1 h).1)
theorem PD.same {p:zd}{s s':za}(I:PD p s) (eH:s'.H.Objs.length=s.H.Objs.length) (eB:s'.T.Black=s.T.Black) (eL:s'.L=s.L):PD p s':=by
 refine ⟨?_⟩;unfold Xg;rw [eH,eB,eL];exact I.L
theorem PD.next {p:zd}(hp:zD p) {nb k:Nat}{s:za}{gh:Gh}(hk:k<4294960000) (I:PD p s) (G:FG p nb k s gh) (j:Int):PD p (Yi s j):=by
 have hN:=G.E.H.n;have hn:=hp.n;have hmo:=hp.most;have hc:0<=cnt (Xg p s)/\cnt (Xg p s)<=9:=⟨zvG _,zwd (zD2 hp s)⟩
 have hdd:0<=(s.H.Objs.length:Int)-(p.H.Objs.length:Int)/\(s.H.Objs.length:Int)-(p.H.Objs.length:Int)<=9:=by omega
 cases hd:s.Done with
 | true=>rw [zh4 hd];exact I
 | false =>
  have hwl:=G.E.wl;have hml:=G.E.ml;unfold Yi;split
  .have hf:=zir s;exact I.same (by conv=>rhs;rw [<-hf]) (by conv=>rhs;rw [<-hf]) (by conv=>rhs;rw [<-hf])
  split
  .by_cases h1:1<=j;rotate_left
   .have:zK s j=s:=by unfold zK;rw [zb (.inr (.inl (by omega)))]
    rw [this];exact I
   obtain ⟨gh',G',_,x,hx,N,C,hb,hT⟩:=G.worker hp hk (show 1<=j/\j<=p.Workers by omega) hd;have e0: ¬(s.Done=true\/j<1\/(s.Ws.length:Int)<j):=by rw [hd];rintro (e | e | e)<;>first | cases e | omega
   have es:zK s j={(zu s j x).1 with Ws:=s.Ws.set (j-1).toNat (zu s j x).2}:=by unfold zK;rw [zc e0,hx]
   have eH:(zK s j).H=s.H:=by rw [zdO G.E j]
   have eT:(zK s j).T=(zu s j x).1.T:=by rw [es]
   have eL:(zK s j).L=if x.PC=8 then zcF s.L 0 else s.L:=by rw [es];exact zF9 s j x
   by_cases h8:x.PC=8
   .rw [zb h8] at eL;have hg:yh s.T x.Obj=1:=(G.B.gr _).1 (zo4 hx (by unfold zW Ua;rw [zi,zi,zb (.inr h8)];simp));have ht:(zu s j x).1.T=yX s.T x.Obj:=by
     unfold zu;rw [zi,zi,zi,zi,zi,zi,zi,zb h8]
    refine ⟨?_⟩;have ec:cnt (Xg p (zK s j))=cnt (Xg p s)+1:=by
     unfold Xg at *;rw [eT];exact zAM hp G hg ht
    rw [ec,eH,eL];exact I.L.earn hp hc hdd 0
   .rw [zc h8] at eL;refine I.same (by rw [eH]) ?_ eL;rw [eT];rcases hT with ⟨_,_,t⟩ | ⟨_,_,_,_,t⟩ | ⟨_,_,h,_⟩
    .rw [t]
    .rw [t]
    .exact absurd h h8
  .by_cases h1:1<=j-(s.Ws.length:Int)/\j-(s.Ws.length:Int)<=(s.Ms.length:Int);rotate_left
   .have:zH s (j-(s.Ws.length:Int))=s:=by unfold zH;rw [zY]
    rw [this];exact I
   generalize j-(s.Ws.length:Int)=m at h1 ⊢;obtain ⟨gh',G',_,x,hx,N,C,hb,hT⟩:=G.mutator hp hk (show 1<=m/\m<=p.Mutators by omega) hd;have e0: ¬(s.Done=true\/m<1\/(s.Ms.length:Int)<m):=by rw [hd];rintro (e | e | e)<;>first | cases e | omega
   have es:zH s m={(zp s m x).1 with Ms:=s.Ms.set (m-1).toNat (zp s m x).2}:=by unfold zH;rw [zc e0,hx]
   have eH:(zH s m).H=(zp s m x).1.H:=by rw [es]
   have eT:(zH s m).T=(zp s m x).1.T:=by rw [es]
   have eL:(zH s m).L=(zp s m x).1.L:=by rw [es]
   have hP:=G.E.S.P;rcases zC0 s m x with ⟨c38,l38⟩ | ⟨c38,hl,hL⟩ | ⟨c30,hh,hL,hmay,hroom⟩
   .have hg:yh s.T x.Obj=1:=(G.B.gr _).1 (zoW hx (zrL (.inr (.inr c38))));have e38:zp s m x=zgj s m x:=by
     unfold zp;rw [zi,zi,zi,zi,zi,zi,zi,zi,zi,zi,zi,zi,zi,zi,zi,zi,zi,zb c38]
    have ht:(zp s m x).1.T=yX s.T x.Obj:=by rw [e38];rfl
    have hh:(zp s m x).1.H=s.H:=by rw [e38];rfl
    refine ⟨?_⟩;have ec:cnt (Xg p (zH s m))=cnt (Xg p s)+1:=by
     unfold Xg at *;rw [eT];exact zAM hp G hg ht
    rw [ec,eH,hh,eL,l38];exact I.L.earn hp hc hdd m
   .have eB:(zp s m x).1.T.Black&&&xz (p.H.Objs.length:Int)=Xg p s:=by
     unfold Xg;rcases hT with ⟨_,_,t⟩ | ⟨_,_,_,_,t⟩ | ⟨_,_,h,_⟩ | ⟨_,_,_,_,t3,_⟩
     .rw [t]
     .rw [t]
     .exact absurd h c38
     .rw [t3,ZT] at hl;omega
    refine ⟨?_⟩;have ec:Xg p (zH s m)=Xg p s:=by
     rw [<-eB];unfold Xg;rw [eT]
    rw [ec,eH,hl,eL];rcases hL with e | ⟨w,e⟩
    .rw [e];exact I.L
    .rw [e];exact I.L.take hp hc hdd m w
   .have hroom':(s.H.Objs.length:Int)<p.Most:=by
     unfold Zz at hroom;simp only [zJB,decide_eq_true_eq] at hroom;rw [hP] at hroom;exact hroom.1
    have nm: ¬zI s.T.Marks ((s.H.Objs.length:Int)+1)=true:=fun e=>by have:=G.mrk _ e;omega
    have nb': ¬zI s.T.Black ((s.H.Objs.length:Int)+1)=true:=fun e=>nm (G.B.blk _ e);have ec:Xg p (zH s m)=Xg p s:=by
     have ht:(zp s m x).1.T=s.T\/(zp s m x).1.T=Y2 s.T (wc (s.H.Objs.length+1))\/(zp s m x).1.T.Black=s.T.Black:=by
      rcases hT with ⟨_,_,t⟩ | ⟨_,_,_,_,t⟩ | ⟨_,_,h,_⟩ | ⟨_,_,_,_,_,t4⟩
      .exact .inl t
      .exact .inr (.inr (by rw [t]))
      .omega
      .exact .inr (.inl t4)
     unfold Xg;rw [eT];rcases ht with t | t | t
     .rw [t]
     .rw [t,yT,zd5 (by omega) nm nb'];refine zkP (fun q=>?_);rw [ui,ui];dsimp only;constructor
      .rintro ⟨a,b⟩;rcases WM a with a | a
       .exact ⟨a,b⟩
       .have:=(YY (n:=p.H.Objs.length) (by omega) q).1 b;omega
      .rintro ⟨a,b⟩;exact ⟨(xQ _ _ _).2 (.inl a),b⟩
     .rw [t]
    refine ⟨?_⟩;rw [hP] at hL hmay;rw [ec,eH,hh,eL,hL,ZT];have:=I.L.spend hp hc hdd hmay;rw [show ((s.H.Objs.length+1:Nat):Int)-(p.H.Objs.length:Int)=(s.H.Objs.length:Int)-(p.H.Objs.length:Int)+1 by omega];exact this
theorem zID {p:zd}(h:zD p):PD p (xl p):=by
 have hm:=h.mt;have hl:=h.limit;refine ⟨?_⟩;have ec:Xg p (xl p)=0#64:=by show 0#64&&&_=_;simp
 rw [ec,zA1,show ((xl p).H.Objs.length:Int)-(p.H.Objs.length:Int)=0 from Int.sub_self _];have z:∀n:Nat,(List.replicate n (0:Int)).sum=0:=fun n=>by induction n with
  | zero=>rfl
  | succ n ih=>rw [List.replicate_succ,zKA,ih];rfl
 refine ⟨by show ((List.replicate p.Mutators.toNat (0:Int)).length:Int)=_;rw [zKf];omega,rfl,by show (0:Int)=_;rw [Int.mul_zero],by show (0:Int)<=0;decide,fun b hb=>?_,?_⟩
 .have:b∈List.replicate p.Mutators.toNat (0:Int):=hb;rw [zLp this];omega
 .show (0:Int)+(List.replicate p.Mutators.toNat (0:Int)).sum=_;rw [z,Int.mul_zero];rfl
theorem zel (a b:BitVec 64):a&&& ~~~b=0#64↔∀o,zI a o=true->zI b o=true:=by
 constructor
 .intro h o ho;have hr:=(xp _ _).1 ho;refine Classical.byContradiction (fun hb=>?_);have:zI (a&&& ~~~b) o=true:=(ui _ _ _).2 ⟨ho,(zd2 b ⟨hr.1,hr.2.1⟩).2 hb⟩;rw [h] at this;exact ZI o this
 .intro h;refine zkP (fun o=>⟨fun e=>?_,fun e=>absurd e (ZI o)⟩);obtain ⟨e1,e2⟩:=(ui _ _ _).1 e;have hr:=(xp _ _).1 e1;exact absurd (h o e1) ((zd2 b ⟨hr.1,hr.2.1⟩).1 e2)
theorem zIx {p:zd}(h:zD p):PI p (xl p) (fun _ _=>False):=by
 have hms:∀(i:Nat) x,(xl p).Ms[i]? =some x->x.PC=0:=fun i x hx=>by
  obtain ⟨r,_,e⟩:=zJO.1 (show x∈p.Regs.map wR from zJG hx);rw [<-e];rfl
 have hws:∀(i:Nat) x,(xl p).Ws[i]? =some x->x.PC=0:=fun i x hx=>by
  obtain ⟨j,_,e⟩:=zJO.1 (show x∈(List.range p.Workers.toNat).map (vX p) from zJG hx);rw [<-e];rfl
 have us:∀u j,US (xl p) u j:=fun u j=>⟨fun i x hx e=>by have:=hws i x hx;omega,fun i x hx e=>by have:=hms i x hx;omega⟩
 refine ⟨fun o ho=>?_,fun i x hx=>?_,fun i x hx=>?_,fun i x hx _=>?_⟩
 .induction ho with
  | root o h1 h2=>exact .inl h1
  | step o v h1 h2 h3 ih =>
   right;have ho:=h1.in;obtain ⟨j,hj⟩:=zLi.1 h2;have hjl:=(zJK.1 hj).1;have hs:yj (xl p).H o (j:Int)=true:=by
    show yj p.H o (j:Int)=true;unfold yj;simp;omega
   have hg:zN (xl p).H o (j:Int)=v:=by
    show zN p.H o (j:Int)=v;unfold zN;rw [zb (show yj p.H o (j:Int)=true from hs),zJD,zKi,hj];rfl
   rcases ih with ih | ih
   .exact .grey o j v (fun e=>e) hs hg ((wY _ _).2 ⟨ih,ZI o⟩) (us _ _)
   .by_cases hm:zI (xl p).T.Marks o=true
    .exact .grey o j v (fun e=>e) hs hg ((wY _ _).2 ⟨hm,ZI o⟩) (us _ _)
    .exact .white o j v (fun e=>e) hs hg hm ih
 .have:=hws i x hx;exact ⟨fun e=>by omega,fun e=>by omega,fun e=>by omega⟩
 .have:=hms i x hx;exact ⟨fun e=>by omega,fun e=>by omega,fun e=>by omega⟩
 .have:=hms i x hx;exact ⟨fun e=>by omega,fun e=>by omega⟩
theorem zyi {o:Int}(h:1<=o/\o<=64):zI (bit o) o=true:=by
 have:=(yN 0#64 h o).2 (.inr rfl);simpa using this
theorem zuH {o:Int}(ho:1<=o/\o<=64):∀(l:List zB) (a:BitVec 64),(zI a o=true\/∃g∈l,zzX g o)->zI (l.foldl (fun a g=>a|||bit (atS g 0 1 g.Obj)) a) o=true
 | [],a,h=>by
  rcases h with h | ⟨x,h,_⟩
  .exact h
  .cases h
 | y::l,a,h=>by
  refine zuH ho l _ ?_;rcases h with h | ⟨x,hx,h⟩
  .exact .inl ((xQ _ _ _).2 (.inl h))
  .rcases zJT.1 hx with rfl | hx
   .refine .inl ((xQ _ _ _).2 (.inr ?_));have:atS x 0 1 x.Obj=o:=by unfold atS;rw [zb h.1,zb (by have:=h.2.1;omega),zb (by have:=h.2.1;omega),h.2.2]
    rw [this];exact zyi ho
   .exact .inr ⟨x,hx,h⟩
theorem zAD {o:Int}{a:BitVec 64}(x:ze) (h:zI a o=true):zI (zcy a x) o=true:=by
 unfold zcy;split
 .exact (xQ _ _ _).2 (.inl ((xQ _ _ _).2 (.inl h)))
 .exact (xQ _ _ _).2 (.inl h)
theorem zhZ {o:Int}:∀(l:List ze) (a:BitVec 64),(zI a o=true\/∃x∈l,∀b,zI (zcy b x) o=true)->zI (l.foldl zcy a) o=true
 | [],a,h=>by
  rcases h with h | ⟨x,h,_⟩
  .exact h
  .cases h
 | y::l,a,h=>by
  refine zhZ l _ ?_;rcases h with h | ⟨x,hx,h⟩
  .exact .inl (zAD y h)
  .rcases zJT.1 hx with rfl | hx
   .exact .inl (h a)
   .exact .inr ⟨x,hx,h⟩
theorem zHP {p:zd}{nb k:Nat}{s:za}{gh:Gh}(G:FG p nb k s gh) (hN:(s.H.Objs.length:Int)<=9) {o:Int}(h:zlE s o):(1<=o/\o<=(s.H.Objs.length:Int))/\zI (zv0 s) o=true:=by
 rcases h with ⟨i,x,hx,h6,hk⟩ | ⟨i,x,hx,h⟩
 .have hm:=zJG hx;have hg:=(G.W i x hx).p6 h6;have hob:=hg.1.ob;have hw:=G.wob i x hx h6;have hr:1<=o/\o<=(s.H.Objs.length:Int):=by have:=hk.2.2;omega
  refine ⟨hr,zhZ _ _ (.inl (zuH (by omega) _ _ (.inr ⟨x.G,?_,hk⟩)))⟩;exact zJV _ (zJO.2 ⟨x,zKW.2 ⟨hm,decide_eq_true h6⟩,rfl⟩)
 .have K:=G.M i x hx;have hm:=zJG hx;obtain ⟨b1,b2,b3⟩:=G.buf x hm;rcases h with h | ⟨h,e⟩ | ⟨h,hk⟩
  .have hr:1<=o/\o<=(s.H.Objs.length:Int):=⟨(K.bf o h).1,b1 o h⟩
   refine ⟨hr,zhZ _ _ (.inr ⟨x,hm,fun b=>?_⟩)⟩;have:zI (b|||Uw x.Buf) o=true:=(xQ _ _ _).2 (.inr (zCM (by omega) _ (.inr h)));unfold zcy;split
   .exact (xQ _ _ _).2 (.inl this)
   .exact this
  .have ho:=K.ol.2 h;have hr:1<=o/\o<=(s.H.Objs.length:Int):=by omega
   refine ⟨hr,zhZ _ _ (.inr ⟨x,hm,fun b=>?_⟩)⟩;unfold zcy;rw [zb (show zhn x by unfold zhn;omega)];exact (xQ _ _ _).2 (.inr (by rw [e];exact zyi (by omega)))
  .have h3:=b3 h;have hob:1<=x.G.Obj:=by
    rcases h with h | h
    .exact (K.p3 h).1.ob.1
    .exact (K.p37 h).1.ob.1
   have hr:1<=o/\o<=(s.H.Objs.length:Int):=by have:=hk.2.2;omega
   refine ⟨hr,zhZ _ _ (.inl (zuH (by omega) _ _ (.inr ⟨x.G,?_,hk⟩)))⟩;exact zJ7 _ (zJO.2 ⟨x,zKW.2 ⟨hm,decide_eq_true h⟩,rfl⟩)
theorem zD8 {p:zd}{nb k:Nat}{s:za}{gh:Gh}(G:FG p nb k s gh) (hN:(s.H.Objs.length:Int)<=9) {W:Int->Int->Prop}{o:Int}(h:zpY s W o):o≠0->Reach s.H (zbD s|||zv0 s) o:=by
 have hv:∀l∈s.H.Objs,∀v∈l,0<=v/\v<=(s.H.Objs.length:Int):=fun l hl=>(G.E.H.objs l hl).2
 induction h with
 | pend o h =>
  intro _;obtain ⟨a,b⟩:=zHP G hN h;exact .root o ((xQ _ _ _).2 (.inr b)) a
 | white u j o hW hj he hu hp ih =>
  intro h0;subst he;have hs:=zCS hv h0;exact .step u _ (ih (by have:=Yf hj;omega)) hs.1 ⟨hs.2.1,hs.2.2⟩
 | grey u j o hW hj he hg hs' =>
  intro h0;subst he;have hs:=zCS hv h0;have hp:=Yf hj;exact .step u _ (.root u ((xQ _ _ _).2 (.inl ((zno u).2 hg))) hp.1) hs.1 ⟨hs.2.1,hs.2.2⟩
theorem zGh {p:zd}(h:zD p) {nb k:Nat}{s:za}{gh:Gh}{W:Int->Int->Prop}(G:FG p nb k s gh) (J:PI p s W):zzF p&&& ~~~(s.T.Marks|||zsr s.H (zbD s|||zv0 s))=0#64:=by
 have hN:=G.E.H.n;have hn:=h.n;have hmo:=h.most;refine (zel _ _).2 (fun o ho=>(xQ _ _ _).2 ?_);have hr:=(zA9 h o).1 ho;have h0:o≠0:=by have:=hr.in;omega
 rcases J.lv o hr with e | e
 .exact .inl e
 .exact .inr ((zyI (by omega) G.E.small.obj _ o).2 (zD8 G (by omega) e h0))
theorem zCW (s:za) (g:zB) (h:g.PC≠1):(zy s g).1.T=s.T:=by
 unfold zy;split
 .rfl
 split
 .rfl
 split
 .rfl
 split
 .rfl
 split
 .rfl
 split
 .rfl
 split
 .rfl
 rfl
theorem zHW (s:za) (m:Int) (x:ze):(zp s m x).1.H=s.H\/((zp s m x).1.T=s.T/\(zp s m x).1.H=xr s.H (wC x (opM s.P m x).A) (opM s.P m x).S (wC x (opM s.P m x).R))\/x.PC=30:=by
 refine xG (motive:=fun r=>r.1.H=s.H\/(r.1.T=s.T/\r.1.H=xr s.H (wC x (opM s.P m x).A) (opM s.P m x).S (wC x (opM s.P m x).R))\/x.PC=30) s m x ?_ ?_ ?_ ?_ ?_ ?_ ?_ ?_ ?_ ?_ ?_ ?_ ?_ ?_ ?_ ?_ ?_ ?_ ?_ ?_
 all_goals first
  | exact fun _=>.inl rfl
  | exact fun _=>.inr (.inl ⟨rfl,rfl⟩)
  | exact fun c=>.inr (.inr c)
  | (intro c;unfold mu3;exact .inl (by dsimp only;rw [vF]))
  | (intro c;unfold zaI;exact .inl (by dsimp only;rw [vF]))
  | exact .inl rfl
theorem zE5 {n:Nat}{h:zq}(hs:∀x∈h.Objs,x.length=n) (a i v:Int):xr h a i v=h\/(yj h a i=true/\zN h a i≠v/\xr h a i v={h with Objs:=h.Objs.set (a-1).toNat ((zF h a).set i.toNat v)}):=by
 by_cases hp:xr h a i v=h
 .exact .inl hp
 refine .inr ?_;have hd:yj h a i=true/\xr h a i v={h with Objs:=h.Objs.set (a-1).toNat ((zF h a).set i.toNat v)}:=by
  unfold xr at hp ⊢;split
  .rename_i c;exact ⟨c.1,rfl⟩
  .rename_i c;rw [zc c] at hp;exact absurd rfl hp
 refine ⟨hd.1,fun e=>hp ?_,hd.2⟩;have hb:=hd.1;unfold yj at hb;simp only [zJB,decide_eq_true_eq] at hb;obtain ⟨⟨⟨b1,b2⟩,b3⟩,b4⟩:=hb;have hg:zN h a i=(zF h a).getD i.toNat 0:=by unfold zN;rw [zb hd.1]
 rw [hg,zJD,zJC (show i.toNat<(zF h a).length by omega)] at e;have e:(zF h a)[i.toNat]'(by omega)=v:=e;have e1:(zF h a).set i.toNat v=zF h a:=by rw [<-e];exact List.set_getElem_self _
 have e2:zF h a=h.Objs[(a-1).toNat]'(by omega):=by unfold zF;rw [zJD,zJC (show (a-1).toNat<h.Objs.length by omega)];rfl
 rw [hd.2,e1,e2,List.set_getElem_self]
theorem zDi {p:zd}(hp:zD p) {nb k:Nat}{s:za}{gh:Gh}(hk:k<4294960000) (G:FG p nb k s gh) (j:Int):zHk s (Yi s j):=by
 have hN:=G.E.H.n;have hn:=hp.n;have hmo:=hp.most;cases hd:s.Done with
 | true=>rw [zh4 hd];exact .none rfl rfl
 | false =>
  have hwl:=G.E.wl;have hml:=G.E.ml;unfold Yi;split
  .have hf:=zir s;exact .none (by conv=>rhs;rw [<-hf]) (by conv=>rhs;rw [<-hf])
  split
  .by_cases h1:1<=j;rotate_left
   .have:zK s j=s:=by unfold zK;rw [zb (.inr (.inl (by omega)))]
    rw [this];exact .none rfl rfl
   obtain ⟨gh',G',_,x,hx,N,C,hb,hT⟩:=G.worker hp hk (show 1<=j/\j<=p.Workers by omega) hd;have e0: ¬(s.Done=true\/j<1\/(s.Ws.length:Int)<j):=by rw [hd];rintro (e | e | e)<;>first | cases e | omega
   have es:zK s j={(zu s j x).1 with Ws:=s.Ws.set (j-1).toNat (zu s j x).2}:=by unfold zK;rw [zc e0,hx]
   have eH:(zK s j).H=s.H:=by rw [zdO G.E j]
   have eT:(zK s j).T=(zu s j x).1.T:=by rw [es]
   rcases hT with ⟨_,_,t⟩ | ⟨_,_,h6,hm,t⟩ | ⟨_,hC,h8,t⟩
   .exact .none (eT.trans t) eH
   .have K:=(G.W _ x hx).p6 h6;have hob:=K.1.ob;refine .shade x.G.Obj hob ((uU hob).1 hm) (eT.trans t) eH (.inl ⟨_,x,hx,h6,K.2.2.2,?_,rfl⟩);refine .inr (Decidable.byContradiction fun hne=>hm ?_);have e6:(zu s j x).1=(zy s x.G).1:=by
     unfold zu;rw [zi,zi,zi,zi,zi,zb h6]
    rw [e6,zCW s x.G hne] at t;exact (congrArg zm.Marks t).symm
   .have hg:yh s.T x.Obj=1:=(G.B.gr _).1 (zo4 hx (zyN (.inr (.inr h8))));refine .scan x.Obj hg ?_ eH;rw [eT,t];unfold yX;rw [zb hg]
  .by_cases h1:1<=j-(s.Ws.length:Int)/\j-(s.Ws.length:Int)<=(s.Ms.length:Int);rotate_left
   .have:zH s (j-(s.Ws.length:Int))=s:=by unfold zH;rw [zY]
    rw [this];exact .none rfl rfl
   generalize j-(s.Ws.length:Int)=m at h1 ⊢;obtain ⟨gh',G',_,x,hx,N,C,hb,hT⟩:=G.mutator hp hk (show 1<=m/\m<=p.Mutators by omega) hd;have e0: ¬(s.Done=true\/m<1\/(s.Ms.length:Int)<m):=by rw [hd];rintro (e | e | e)<;>first | cases e | omega
   have es:zH s m={(zp s m x).1 with Ms:=s.Ms.set (m-1).toNat (zp s m x).2}:=by unfold zH;rw [zc e0,hx]
   have eH:(zH s m).H=(zp s m x).1.H:=by rw [es]
   have eT:(zH s m).T=(zp s m x).1.T:=by rw [es]
   have hh:=zpf s m x;rcases hT with ⟨_,_,t⟩ | ⟨_,_,h3,hm,t⟩ | ⟨_,hC,h8,t⟩ | ⟨_,_,c30,hroom,t3,t4⟩
   .rcases zHW s m x with h | ⟨_,h⟩ | h
    .exact .none (eT.trans t) (eH.trans h)
    .rcases zE5 (n:=p.H.Slots.toNat) (fun y hy=>by have:=(G.E.H.objs y hy).1;have:=G.E.H.slots;omega) (wC x (opM s.P m x).A) (opM s.P m x).S (wC x (opM s.P m x).R) with e | ⟨q1,q2,q3⟩
     .exact .none (eT.trans t) (eH.trans (h.trans e))
     .exact .write _ _ _ q1 q2 (eT.trans t) (eH.trans h) q3
    .rcases zC0 s m x with ⟨c,_⟩ | ⟨_,hl,_⟩ | ⟨_,h5,_,_,_⟩
     .omega
     .have e30:(zp s m x).1.H=s.H:=by
       rcases zpd s m x with ⟨q,_,_⟩ | ⟨q,_⟩
       .have e:zp s m x=Uo s m x:=by
         unfold zp;rw [zi,zi,zi,zi,zi,zi,zi,zi,zi,zb h]
        rw [e] at hl ⊢;unfold Uo at hl ⊢;split
        .split
         .rename_i g1 g2;rw [zb g1,zb g2] at hl;have:=ZT s.H;have hl:(yB s.H).Objs.length=s.H.Objs.length:=hl;omega
         .rfl
        .rfl
       .rw [q,ZT] at hl;omega
      exact .none (eT.trans t) (eH.trans e30)
     .exfalso;have nm: ¬zI s.T.Marks ((s.H.Objs.length:Int)+1)=true:=fun e=>by have:=G.mrk _ e;omega
      have nb': ¬zI s.T.Black ((s.H.Objs.length:Int)+1)=true:=fun e=>nm (G.B.blk _ e);rcases zpd s m x with ⟨q,_,_⟩ | ⟨_,q,_⟩
      .rw [h5,ZT] at q;omega
      .rw [t,yT,zd5 (by omega) nm nb'] at q;have q:=congrArg zm.Marks q;exact nm (by rw [q];exact (yN _ (by omega) _).2 (.inr rfl))
   .have hG:(1<=x.G.Obj/\x.G.Obj<=64)/\x.G.Out=0:=by
     rcases h3 with h | h
     .exact ⟨((G.M _ x hx).p3 h).1.ob,((G.M _ x hx).p3 h).2.2⟩
     .exact ⟨((G.M _ x hx).p37 h).1.ob,((G.M _ x hx).p37 h).2.2⟩
    have eh:(zp s m x).1.H=s.H:=by
     rcases hh with h | h | h
     .exact h
     .omega
     .omega
    refine .shade x.G.Obj hG.1 ((uU hG.1).1 hm) (eT.trans t) (eH.trans eh) (.inr ⟨_,x,hx,.inr (.inr ⟨h3,hG.2,?_,rfl⟩)⟩);refine .inr (Decidable.byContradiction fun hne=>hm ?_);have e6:(zp s m x).1.T=(zy s x.G).1.T:=by
     rcases h3 with h | h
     .unfold zp;rw [zi,zi,zi,zb h];rfl
     .unfold zp;rw [zi,zi,zi,zi,zi,zi,zi,zi,zi,zi,zi,zi,zi,zi,zi,zi,zb h];rfl
    rw [e6,zCW s x.G hne] at t;exact (congrArg zm.Marks t).symm
   .have hg:yh s.T x.Obj=1:=(G.B.gr _).1 (zoW hx (zrL (.inr (.inr h8))));have eh:(zp s m x).1.H=s.H:=by
     rcases hh with h | h | h
     .exact h
     .omega
     .omega
    refine .scan x.Obj hg ?_ (eH.trans eh);rw [eT,t];unfold yX;rw [zb hg]
   .have hroom':(s.H.Objs.length:Int)<p.Most:=by
     unfold Zz at hroom;simp only [zJB,decide_eq_true_eq] at hroom;rw [G.E.S.P] at hroom;exact hroom.1
    have nm: ¬zI s.T.Marks ((s.H.Objs.length:Int)+1)=true:=fun e=>by have:=G.mrk _ e;omega
    have nb': ¬zI s.T.Black ((s.H.Objs.length:Int)+1)=true:=fun e=>nm (G.B.blk _ e);refine .alloc (eH.trans t3) (by omega) ?_;rw [eT,t4,yT,zd5 (by omega) nm nb']
def zb7 (p:zd) (s:za):BitVec 64:=xz (s.H.Objs.length:Int)&&& ~~~xz (p.H.Objs.length:Int)
theorem zj3 {p:zd}(hp:zD p) {s:za}(H:HOk p s.H) (o:Int):zI (zb7 p s) o=true↔(p.H.Objs.length:Int)<o/\o<=(s.H.Objs.length:Int):=by
 have hN:=H.n;have hn:=hp.n;have hmo:=hp.most;unfold zb7;rw [ui,YY (by omega)];constructor
 .rintro ⟨a,b⟩;have b:=(zd2 _ (by omega)).1 b;rw [YY (by omega)] at b;omega
 .rintro ⟨a,b⟩;refine ⟨by omega,(zd2 _ (by omega)).2 ?_⟩;rw [YY (by omega)];omega
theorem zes {p:zd}{s:za}(hP:s.P=p):Wu s=some (zb7 p s,()):=by
 rw [zwC,zez _ (by omega),zJA,zr7,zez _ (by omega),zJA,zJA,hP];rfl
theorem zzj:∀(n m:Fin 10),m<=n->cnt (xz (n.1:Int)&&& ~~~xz (m.1:Int))=(n.1:Int)-(m.1:Int):=by decide +kernel
theorem zyz {p:zd}(hp:zD p) {s:za}(H:HOk p s.H):cnt (zb7 p s)=(s.H.Objs.length:Int)-(p.H.Objs.length:Int):=by
 have hN:=H.n;have hn:=hp.n;have hmo:=hp.most;exact zzj ⟨s.H.Objs.length,by omega⟩ ⟨p.H.Objs.length,by omega⟩ (by show p.H.Objs.length<=s.H.Objs.length;omega)
theorem zx5 {p:zd}(hp:zD p) {nb k:Nat}{s:za}{gh:Gh}(G:FG p nb k s gh):zb7 p s&&& ~~~s.T.Black=0#64:=(zel _ _).2 (fun o ho=>by
 have:=(zj3 hp G.E.H o).1 ho;exact G.bk o this.1 this.2)
theorem zyn {g:BitVec 64}(h:∀o,zI g o=true->o<=9):Uw (Yb g)=g/\cnt g=((Yb g).length:Int):=by
 obtain ⟨e1,e2⟩:=zCY (l:=Yb g) (fun o ho=>⟨((xp _ _).1 (znu.1 ho).1).1,(znu.1 ho).2⟩) (ztu g);have e:Uw (Yb g)=g:=zkP (fun o=>(e2 o).trans (znu.trans ⟨fun x=>x.1,fun x=>⟨x,h o x⟩⟩));rw [e] at e1;exact ⟨e,e1⟩
theorem zAd (g:BitVec 64):(Yb g).length<=9:=by
 unfold Yb;rw [zKv];have:=zKN (fun i=>g.getLsbD i) (List.range 9);rwa [List.length_range] at this
theorem zGO {g:BitVec 64}(h:∀o,zI g o=true->o<=9):zpA (Yb g)=some (g,true,()):=by
 obtain ⟨e1,e2⟩:=zyn h;have hl:=zAd g;rw [zzo,zAT (by omega),zJA,ziM,zJA,e1];dsimp only;rw [ya,zb e2]
theorem zFv {p:zd}(h:zD p) {k:Nat}{s:za}{gh:Gh}(G:FG p (z5 p+1) k s gh):zbc s=some (true,()):=by
 rw [zxx,zAf h G,zJA,zGO (zEU h G),zJA];dsimp only;rw [cond_true,zfM,zJA];dsimp only;rw [show s.T.Marks&&& ~~~s.T.Black=zbD s from rfl,decide_eq_true rfl]
theorem zCz {p:zd}(h:zD p) {k:Nat}{s:za}{gh:Gh}(I:EG p (z5 p+1) k s gh):VB s=some (true,()):=by
 have hwk:=h.wk;have hmt:=h.mt;have wl:=I.G.E.wl;have ml:=I.G.E.ml;have hr:=zEH s;have hl:=zAd (zbD s);have he:=(zyn (zEU h I.G)).2;have hc:=zFS h I.G;have hw:=I.wk;rw [zuf,zAf h I.G,zJA,zFH (by omega) (by omega),zJA];dsimp only;rw [zU,decide_eq_true (by omega)]
theorem zFB {p:zd}(h:zD p) {nb k:Nat}{s:za}{gh:Gh}{W:Int->Int->Prop}(G:FG p nb k s gh) (J:PI p s W):zbe s=some (true,()):=by
 have hwk:=h.wk;have hmt:=h.mt;have wl:=G.E.wl;have ml:=G.E.ml;have hN:=G.E.H.n;have hn:=h.n;have hmo:=h.most;rw [zxL,zfM,zJA,zq9 G.E.small (by omega) (by omega),zJA];dsimp only;rw [zu8 (by omega) G.E.small.obj,zJA,G.E.S.P,zxZ h,zJA,ZP,zJA];dsimp only;rw [show s.T.Marks&&& ~~~s.T.Black=zbD s from rfl,zGh h G J,decide_eq_true rfl]
theorem zBQ {p:zd}(h:zD p) {nb k:Nat}{s:za}{gh:Gh}(G:FG p nb k s gh) (B:BN p s):Vz s=some (true,()):=by
 have hN:=G.E.H.n;have hn:=h.n;have hmo:=h.most;have u1:s.T.Marks&&& ~~~(zzF p|||zb7 p s)=0#64:=(zel _ _).2 (fun o ho=>(xQ _ _ _).2 ((B.mkd o ho).imp (fun r=>(zA9 h o).2 r) (fun r=>(zj3 h G.E.H o).2 r)));have u2:s.T.Black&&& ~~~s.T.Marks=0#64:=(zel _ _).2 (fun o ho=>G.B.blk o ho);have u3:s.T.Marks&&& ~~~xz (s.H.Objs.length:Int)=0#64:=(zel _ _).2 (fun o ho=>(YY (by omega) o).2 ⟨((xp _ _).1 ho).1,G.mrk o ho⟩);rw [ztB,zes G.E.S.P,zJA,G.E.S.P,zxZ h,zJA,ZP,zJA];dsimp only;rw [u1,decide_eq_true rfl,cond_true,ZP,zJA];dsimp only;rw [zx5 h G,decide_eq_true rfl,cond_true,zvF,ZP,zJA];dsimp only;rw [u2,decide_eq_true rfl,cond_true,zez _ (by omega),zJA,ZP,zJA];dsimp only;rw [u3,decide_eq_true rfl];rfl
theorem zGB {l:List Int}{s:za}(hl:l.length<1000000) (hm:0<=s.P.Limit/\s.P.Limit<1000) (h:∀b∈l,-s.P.Limit<=b):wm l s=some (false,()):=by
 rw [XT,WU];obtain ⟨e,_⟩:=ZO (f:=yI) (fun j (_:Unit)=>(l,(l.length:Int),j,s,())) (fun _=>()) l hl (fun _ _=>()) (fun _ _=>True) (s:=()) trivial
  (fun i r x hx hi hr=>by
   have hb:=h x (zJG hx);refine ⟨trivial,?_⟩;show yI (l,(l.length:Int),(i:Int),s,())=_;rw [uc,zo,zY,yZ hx,zJA,zvB,zJA,zU];dsimp only;rw [decide_eq_false (by omega),cond_false,yH])
  (fun r hr=>by
   show yI (l,(l.length:Int),(l.length:Int),s,())=_;rw [uc,zo,zi])
 rw [e];rfl
theorem lo3 {a b c:Int}(ha:0<=a) (hb:0<=b) (hc:0<=c):decide ((bif decide (c<(bif decide (a<b) then a else b)) then c else (bif decide (a<b) then a else b))<0)=false:=by
 simp only [zo];refine decide_eq_false ?_;split
 .omega
 .split<;>omega
theorem hi3 {a b c n:Int}(ha:a<=n) (hb:b<=n) (hc:c<=n):decide (n<(bif decide ((bif decide (a<b) then b else a)<c) then c else (bif decide (a<b) then b else a)))=false:=by
 simp only [zo];refine decide_eq_false ?_;split
 .omega
 .split<;>omega
theorem zz4 {p:zd}(hp:zD p) {c d:Int}(hc:0<=c/\c<=9) (hd:0<=d/\d<=9) {l:zr}(I:LdG p c d l):zg5 l=some (true,()):=by
 obtain ⟨h1,h2,h3⟩:=I.low hp hc hd;have hm:=hp.mt;have hlen:=I.len;have hsc:=I.sc;have hsp:=I.sp;have hpo:=I.pool;have hsum:=I.sum;rw [zsZ,zo,zc (show ¬(16:Int)<(l.Bal.length:Int) by omega),lo3 (by omega) (by omega) (by omega),cond_false,hi3 (by omega) (by omega) (by omega),cond_false,zU];obtain ⟨e,_⟩:=ZO (f:=XP) (fun j (r:Int)=>(r,l.Bal,(l.Bal.length:Int),j,l,())) (fun r=>(r,l,())) l.Bal (by omega) (fun r b=>r+b) (fun i r=> -1000-100*(i:Int)<=r/\r<=1000+100*(i:Int)) (s:=l.Spent+l.Pool) ⟨by omega,by omega⟩
  (fun i r x hx hi hr=>by
   have hb:=h3 x (zJG hx);refine ⟨⟨by omega,by omega⟩,?_⟩;show XP (r,l.Bal,(l.Bal.length:Int),(i:Int),l,())=_;rw [zeS,zo,zY,yZ hx,zJA,zo,zi,zo,zi,yH,zU])
  (fun r hr=>by
   show XP (r,l.Bal,(l.Bal.length:Int),(l.Bal.length:Int),l,())=_;rw [zeS,zo,zi])
 have hf:∀(q:List Int) (a:Int),q.foldl (fun r b=>r+b) a=a+q.sum:=fun q=>by
  induction q with
  | nil=>intro a;simp
  | cons x q ih=>intro a;rw [zKq,ih,zKA];omega
 rw [hf] at e;rw [e,zJA];dsimp only;rw [decide_eq_true (by omega)]
theorem zF2 {p:zd}(h:zD p) {nb k:Nat}{s:za}{gh:Gh}(G:FG p nb k s gh) (I:PD p s):zcL s=some (true,()):=by
 have hN:=G.E.H.n;have hn:=h.n;have hmo:=h.most;have hm:=h.mt;have hl:=h.limit;have hP:=G.E.S.P;have hc:0<=cnt (Xg p s)/\cnt (Xg p s)<=9:=⟨zvG _,zwd (zD2 h s)⟩
 have hdd:0<=(s.H.Objs.length:Int)-(p.H.Objs.length:Int)/\(s.H.Objs.length:Int)-(p.H.Objs.length:Int)<=9:=by omega
 have hlow:=I.L.low h hc hdd;have hlen:=I.L.len;have hbal:∀b∈s.L.Bal,-s.P.Limit<=b:=by rw [hP];exact I.L.bal
 have hb:=zGB (l:=s.L.Bal) (s:=s) (by omega) (by rw [hP];omega) hbal;have e:s.T.Black&&&xz (p.H.Objs.length:Int)=Xg p s:=rfl;have e1:zmY s=some (xz (p.H.Objs.length:Int),()):=by rw [zr7,hP,zez _ (by omega),zJA]
 have e2:=zz4 h hc hdd I.L;have e3:w64 (p.Price*cnt (zb7 p s))=s.L.Spent:=by rw [zyz h G.E.H,zU,I.L.sp]
 rw [zza,zes hP,zJA,ziM,zJA,e1,zJA,ziM,zJA,e2,zJA];dsimp only;have key:∀(b1 b2:Bool) (r:Option (Bool×Unit)),r=some (false,())->b1=true->b2=true->(r.bind fun y6=>bif !y6.1 then (bif b1 then some (b2,()) else some (false,())) else some (false,()))=some (true,()):=by
  rintro _ _ _ rfl rfl rfl;rfl
 rw [cond_true];exact key _ _ _ hb (decide_eq_true (by rw [hP];exact e3.symm)) (decide_eq_true I.L.sc)
theorem zAQ {s:za}(h1:zbc s=some (true,())) (h2:VB s=some (true,())) (h3:zbe s=some (true,())) (h4:Vz s=some (true,())) (h5:zcL s=some (true,())) (h6:za6 s=some (true,())) (h7:Xj s.H=some (true,())):zdq s=some (true,()):=by
 have w:∀n:Nat,n<10->w64 ((n:Int)+1)=((n+1:Nat):Int):=fun n hn=>yH;have r6:vZ (6,s,())=some (.brk (s,())):=by rw [Za];rfl
 have r5:vZ (5,s,())=some (.again (6,s,())):=by
  rw [Za,h6];show some (yD.again (w64 (((5:Nat):Int)+1),s,()))=_;rw [w 5 (by decide)];rfl
 have r4:vZ (4,s,())=some (.again (5,s,())):=by
  rw [Za,h5];show some (yD.again (w64 (((4:Nat):Int)+1),s,()))=_;rw [w 4 (by decide)];rfl
 have r3:vZ (3,s,())=some (.again (4,s,())):=by
  rw [Za,h4];show some (yD.again (w64 (((3:Nat):Int)+1),s,()))=_;rw [w 3 (by decide)];rfl
 have r2:vZ (2,s,())=some (.again (3,s,())):=by
  rw [Za,h3];show some (yD.again (w64 (((2:Nat):Int)+1),s,()))=_;rw [w 2 (by decide)];rfl
 have r1:vZ (1,s,())=some (.again (2,s,())):=by
  rw [Za,h2];show some (yD.again (w64 (((1:Nat):Int)+1),s,()))=_;rw [w 1 (by decide)];rfl
 have r0:vZ (0,s,())=some (.again (1,s,())):=by
  rw [Za,h1];show some (yD.again (w64 (((0:Nat):Int)+1),s,()))=_;rw [w 0 (by decide)];rfl
 rw [zxK];have e:yK vZ (0+1+1+1+1+1+1+1) (0,s,())=some (.brk (s,())):=by
  rw [yK,r0,zJA];dsimp only;rw [yK,r1,zJA];dsimp only;rw [yK,r2,zJA];dsimp only;rw [yK,r3,zJA];dsimp only;rw [yK,r4,zJA];dsimp only;rw [yK,r5,zJA];dsimp only;rw [yK,r6,zJA]
 rw [zpq e (by decide),zJA];dsimp only;rw [h7];rfl
theorem zIe {p:zd}(hp:zD p) {h:zq}(H:HOk p h):Xj h=some (true,()):=by
 have hN:=H.n;have hn:=hp.n;have hmo:=hp.most;have hs:=hp.slots;have hsl:=H.slots;exact zqv ⟨by omega,by omega⟩ (by omega) H.objs
theorem zHa:∀t:Fin 64,cnt (BitVec.ofNat 64 t.1)=((Va (BitVec.ofNat 64 t.1)).length:Int):=by decide +kernel
theorem zFQ {s:BitVec 64}(h:s&&& ~~~63#64=0#64):cnt s=((Va s).length:Int):=by
 have hs:s.toNat<64:=by
  have e:s=s&&&63#64:=by
   have:s=(s&&&63#64)|||(s&&& ~~~63#64):=by
    apply zK5;intro i hi;simp only [BitVec.getLsbD_or,zKO,zLg];cases s.getLsbD i<;>cases (63#64:BitVec 64).getLsbD i<;>simp [hi]
   rw [h,BitVec.or_zero] at this;exact this
  rw [e,zKF];have:s.toNat&&&(63#64:BitVec 64).toNat<=(63#64:BitVec 64).toNat:=Nat.and_le_right;have e63:(63#64:BitVec 64).toNat=63:=by decide
  omega
 have:=zHa ⟨s.toNat,hs⟩;have e:BitVec.ofNat 64 s.toNat=s:=by simp
 rw [e] at this;exact this
theorem zIL {p:zd}(h:zD p):EG p (z5 p+1) 0 (xl p) (gh0 p):=by
 have hms:∀x∈(xl p).Ms,x.PC=0:=fun x hx=>by
  obtain ⟨r,_,e⟩:=zJO.1 (show x∈p.Regs.map wR from hx);rw [<-e];rfl
 have hws:∀x∈(xl p).Ws,∃i:Nat,x=vX p i:=fun x hx=>by
  obtain ⟨j,_,e⟩:=zJO.1 (show x∈(List.range p.Workers.toNat).map (vX p) from hx);exact ⟨j,e.symm⟩
 have z:∀ {l:List Int},(∀v∈l,v=0)->l.sum=0:=fun {l} h=>by
  induction l with
  | nil=>rfl
  | cons a l ih=>rw [zKA,h a (zJW ..),ih (fun v hv=>h v (zJI _ hv))];rfl
 have ho:zai (xl p)=0:=by
  unfold zai;rw [z (fun v hv=>by
   obtain ⟨x,hx,rfl⟩:=zJO.1 hv;obtain ⟨i,rfl⟩:=hws x hx;rfl),z (fun v hv=>by
   obtain ⟨x,hx,rfl⟩:=zJO.1 hv;have:=hms x hx;unfold owX;rw [zi,zi])]
  rfl
 have hold1:(xl p).Ms.flatMap (z8 (xl p))=[]:=zcl (fun x hx=>by
  obtain ⟨r,_,e⟩:=zJO.1 (show x∈p.Regs.map wR from hx);rw [<-e];unfold z8;rw [uS ⟨by show (0:Int)≠3;decide,by show (0:Int)≠33;decide,by show (0:Int)≠36;decide,by show (0:Int)≠37;decide,by show (0:Int)≠38;decide⟩];rfl)
 have hold2:(xl p).Ws.flatMap (zW (xl p))=[]:=zcl (fun x hx=>by
  obtain ⟨i,rfl⟩:=hws x hx;have hb:vX p i=UI p ((i:Int)+1) (vX p i):=rfl;unfold zW;rw [hb,zjW];rfl)
 have hb:vG p (xl p) (gh0 p)=Va (uV p):=by
  unfold vG;rw [hold1,hold2,zJE,zJE,zC1 h]
 have hc:=zFQ (zhL h);have hw:(xl p).Work=cnt (uV p):=rfl;have hl:=zmN h;have hn:=h.n;exact ⟨zFI h,by rw [hb,ho,hw,hc];omega,by rw [hw,hc];omega⟩
end
end Go.Pe.G
