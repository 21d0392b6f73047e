/- Own work of this seat: PWAll, PLists, PWNew, PHeld, PCnt, PWOnce, PItems, PMstep, PHp, PFirst, PNewI, PFull, PHold, PFWork, PEngI, PRem, PHeldAll, PHOwed, PReach, PHTold, PBetween, PRegs, PBound, PLiveP, PProt, PMProt, PMSnap, PWSnap, PEngP, PTri, PPaid, PUnder, PNewPi, PHPend. -/
import Derived.Test.YtcajmfphncfieaaGreatDoorTLPa
set_option linter.unusedVariables false
set_option linter.unusedSimpArgs false
set_option linter.unnecessarySimpa false
set_option linter.unusedSectionVars false
set_option linter.deprecated false
set_option maxRecDepth 20000
open BitVec renaming toNat_and → zLK, getLsbD_and → zLT, eq_of_getLsbD_eq → zL9, getLsbD_zero → zMa, toInt_eq_toNat_cond → zMg, getLsbD_not → zMm
open Bool renaming and_eq_true → zKF, not_eq_true' → zKX, not_true → zKY, false_eq_true → zLi, true_and → zLD, or_eq_true → zLO
open Int renaming le_refl → zK6, toNat_natCast → zLn
open List renaming getElem?_eq_getElem → zKG, getD_eq_getElem?_getD → zKH, append_nil → zKI, mem_of_getElem? → zKK, append_assoc → zKM, mem_cons_of_mem → zKN, getElem?_eq_some_iff → zKO, nil_append → zKP, length_append → zKS, mem_map → zKT, length_cons → zKV, mem_cons → zKW, mem_append_left → zKZ, getElem_mem → zK1, mem_cons_self → zK2, length_set → zK3, mem_append → zK4, mem_range → zK7, perm_append_comm_assoc → zK9, getElem?_append_left → zLb, mem_append_right → zLd, getElem?_map → zLe, getElem?_set_ne → zLf, getElem?_append_right → zLg, length_replicate → zLl, drop_eq_getElem_cons → zLm, mem_or_eq_of_mem_set → zLo, mem_singleton → zLr, perm_append_comm → zLs, getElem?_set → zLt, eq_nil_of_length_eq_zero → zLu, foldl_cons → zLv, flatMap_cons → zLw, length_nil → zLx, length_map → zLA, map_cons → zLB, sum_cons → zLE, getElem?_cons_zero → zLJ, getElem?_set_self → zLL, getElem?_eq_none → zLN, length_take → zLQ, length_filter_le → zLS, nodup_append → zLU, length_drop → zLW, take_add_one → zLZ, mem_filter → zL0, range_succ → zL2, flatMap_append → zL3, range_eq_range' → zL5, cons_append → zL7, getElem?_replicate → zL8, mem_flatMap → zMb, mem_of_mem_take → zMd, range'_succ → zMh, map_congr_left → zMi, take_append_drop → zMj, take_length → zMk, mem_iff_getElem? → zMo, drop_of_length_le → zMp, getElem?_cons_succ → zMt, eq_of_mem_replicate → zMu, length_singleton → zMw
open List.Perm renaming append_left → zKR, refl → zK8, append_right → zMc
open Nat renaming le_refl → zKJ, lt_or_ge → zLh, mul_le_mul_right → zLG, zero_le → zLI, le_trans → zLM, lt_of_le_of_lt → zMn
open Option renaming bind_some → zKE, bind_eq_some_iff → zKQ
namespace Go.Pe.G
open Go.Pe
noncomputable section
theorem zuB {α:Type}{l:List α}{i:Nat}{x:α}(h:l[i]? =some x):∃a b,l=a++x::b/\(∀y,l.set i y=a++y::b)/\(∀z∈a++b,∃j,j≠i/\l[j]? =some z) /\
  (∀j z,j≠i->l[j]? =some z->z∈a++b):=by
 obtain ⟨hi,e⟩:=zKO.1 h;have hl:(l.take i).length=i:=by rw [zLQ];omega
 have el:l=l.take i++x::l.drop (i+1):=by
  conv=>lhs;rw [<-zMj i l,zLm hi,e]
 refine ⟨l.take i,l.drop (i+1),el,fun y=>?_,fun z hz=>?_,fun j z hj hz=>?_⟩
 .rw [List.set_eq_take_append_cons_drop,zb hi]
 .rcases zK4.1 hz with hz | hz
  .obtain ⟨j,hj⟩:=zMo.1 hz;obtain ⟨hj1,hj2⟩:=zKO.1 hj;have hj3:j<i:=by omega
   exact ⟨j,by omega,by rw [List.getElem?_take_of_lt hj3] at hj;exact hj⟩
  .obtain ⟨j,hj⟩:=zMo.1 hz;exact ⟨i+1+j,by omega,by rw [List.getElem?_drop] at hj;exact hj⟩
 .rw [el] at hz;rcases zLh j i with h1 | h1
  .rw [zLb (by omega)] at hz;exact zKZ _ (zKK hz)
  .rw [zLg (by omega),hl] at hz;rw [show j-i=(j-i-1)+1 by omega,zMt] at hz;exact zLd _ (zKK hz)
theorem ZW {α β:Type}{f:α->List β}{a b:List α}{x:α}:List.Perm ((a++x::b).flatMap f) (f x++(a++b).flatMap f):=by
 rw [zL3,zLw,zL3];exact zK9 _ _ _
theorem SX.perm {p:zd}{nb k:Nat}{s:za}{g:Gh}{o o':List Int}(X:SX p nb s g o k) (h:List.Perm o' o):SX p nb s g o' k :=
 ⟨X.S,⟨X.L.hs,X.L.cF,X.L.cE,(zKR _ h).trans X.L.all,X.L.len⟩,X.D,X.v,X.dk⟩
theorem SX.state {p:zd}{nb k:Nat}{s s':za}{g:Gh}{o:List Int}(X:SX p nb s g o k) (S':SOk p nb s') (hm:s'.M=s.M):SX p nb s' g o k :=
 ⟨S',by rw [hm];exact X.L,by rw [hm];exact X.D,by rw [hm];exact X.v,X.dk⟩
theorem GX.state {p:zd}{s s':za}{gh:Gh}{g:zJ}(G:GX p s gh g) (hm:s'.M=s.M) (hb:s'.Bins=s.Bins):GX p s' gh g :=
 ⟨G.o,G.pc,G.md,G.ob,G.c0,by rw [hm];exact G.c5,by rw [hm,hb];exact G.c7,by rw [hm];exact G.d3⟩
theorem WX.state {p:zd}{s s':za}{gh:Gh}{w:Int}{x:zj}(W:WX p s gh w x) (hm:s'.M=s.M) (hb:s'.Bins=s.Bins):WX p s' gh w x :=
 ⟨W.c0,W.bt,by rw [hm];exact W.p0,by rw [hm];exact W.p1,by rw [hm];exact W.p2,by rw [hm];exact W.p4,fun e=>⟨(W.p6 e).1.state hm hb,(W.p6 e).2⟩⟩
theorem zd0 {s s':za}{x:zj}(hm:s'.M=s.M) (hb:s'.Bins=s.Bins):z5 s' x=z5 s x:=by
 unfold z5 UH yT;rw [hm,hb]
def zsD (p:zd) (s:za) (g:Gh):List Int:=yL p s g++s.Ws.flatMap (z5 s)
structure zbS (B:List Int) (t:zn):Prop where
 blk:∀o,zP t.Black o=true->zP t.Marks o=true
 nd:B.Nodup
 gr:∀o,o∈B↔yp t o=1
theorem Wu {t:zn}{o:Int}(h:yp t o=1):1<=o/\o<=64:=by
 have:=(xL _ _).1 ((w8 t o).1 h).1;exact ⟨this.1,this.2.1⟩
theorem zbS.more {B B':List Int}{t:zn}{o:Int}(K:zbS B t) (ho:1<=o/\o<=64) (hn: ¬(t.Marks|||bit o=t.Marks)) (h:List.Perm B' (o::B)):zbS B' {t with Marks:=t.Marks|||bit o}:=by
 have hn:=(uJ ho).1 hn;have hnb: ¬zP t.Black o=true:=fun e=>hn (K.blk o e);have hno:o∉B:=fun e=>hn ((w8 t o).1 ((K.gr o).1 e)).1;refine ⟨fun q hq=>(yO _ ho q).2 (.inl (K.blk q hq)),h.nodup_iff.2 (List.nodup_cons.2 ⟨hno,K.nd⟩),fun q=>?_⟩;rw [h.mem_iff,zKW,K.gr,w8,w8];show q=o\/_↔zP (t.Marks|||bit o) q=true/\¬zP t.Black q=true;rw [yO _ ho];constructor
 .rintro (rfl | ⟨a,b⟩)
  .exact ⟨.inr rfl,hnb⟩
  .exact ⟨.inl a,b⟩
 .rintro ⟨a | a,b⟩
  .exact .inr ⟨a,b⟩
  .exact .inl a
theorem zbS.less {B B':List Int}{t:zn}{o:Int}(K:zbS B t) (h:List.Perm (B'++[o]) B):zbS B' (xj t o)/\(xj t o).Marks=t.Marks/\yp t o=1/\∀q,zP (xj t o).Black q=true↔zP t.Black q=true\/q=o:=by
 have ho:yp t o=1:=(K.gr o).1 (h.mem_iff.1 (by simp));have hr:=Wu ho;have hm:=((w8 t o).1 ho)
 have hnd:=h.nodup_iff.2 K.nd;have hnd:=zLU.1 hnd;unfold xj;rw [zb ho];refine ⟨⟨fun q hq=>?_,hnd.1,fun q=>?_⟩,rfl,ho,fun q=>yO _ hr q⟩
 .rcases (yO _ hr q).1 hq with e | e
  .exact K.blk q e
  .rw [e];exact hm.1
 .have e1:q∈B↔q∈B'\/q=o:=by rw [<-h.mem_iff,zK4,zLr]
  rw [K.gr,w8] at e1;rw [w8];show _↔zP t.Marks q=true/\¬zP (t.Black|||bit o) q=true;rw [yO _ hr];constructor
  .intro hq;have:=e1.2 (.inl hq);exact ⟨this.1,fun e=>e.elim this.2 (fun e=>hnd.2.2 q hq o (by simp) e)⟩
  .rintro ⟨a,b⟩;rcases e1.1 ⟨a,fun e=>b (.inl e)⟩ with e | e
   .exact e
   .exact zm (.inr e) b
theorem HOk.get {p:zd}(hp:zI p) {h:zr}(H:HOk p h) (o i:Int):0<=zW h o i/\zW h o i<=64:=by
 have h1:=H.n;have h2:p.Most<=64:=by have:=hp.most;have:=hp.n;omega
 unfold zW;split
 .unfold zR;rw [zKH,zKH];cases hx:h.Objs[(o-1).toNat]? with
  | none=>show 0<=(([]:List Int)[i.toNat]?).getD 0/\_;simp
  | some l =>
   show 0<=(l[i.toNat]?).getD 0/\(l[i.toNat]?).getD 0<=64;cases hv:l[i.toNat]? with
   | none=>show (0:Int)<=0/\(0:Int)<=64;decide
   | some v =>
    have:=(H.objs l (zKK hx)).2 v (zKK hv);show 0<=v/\v<=64;omega
 .exact ⟨by decide,by decide⟩
structure WG (p:zd) (nb k:Nat) (s:za) (gh:Gh):Prop where
 E:EOk p nb s
 X:SX p nb s gh (s.Ws.flatMap wW) k
 W:∀(i:Nat) x,s.Ws[i]? =some x->WX p s gh ((i:Int)+1) x
 B:zbS (zsD p s gh) s.T
def zH9 (s s':za) (w:Int):Prop :=
 s'.T=s.T\/(∃x o,s.Ws[(w-1).toNat]? =some x/\x.PC=6/\o=x.G.Obj/\(1<=o/\o<=64)/\¬zP s.T.Marks o=true/\s'.T={s.T with Marks:=s.T.Marks|||bit o}) \/
  (∃x,s.Ws[(w-1).toNat]? =some x/\x.PC=8/\yp s.T x.Obj=1/\s'.T={s.T with Black:=s.T.Black|||bit x.Obj})
theorem WG.step {p:zd}(hp:zI p) {nb k:Nat}{s:za}{gh:Gh}(hk:k<4294960000) (G:WG p nb k s gh) {w:Int}(hw:1<=w/\w<=p.Workers) (hd:s.Done=false):∃gh',WG p nb (k+1) (zS s w) gh'/\zH9 s (zS s w) w:=by
 have hE:=zuT hp G.E w;have hwl:=G.E.wl;have e0: ¬(s.Done=true\/w<1\/(s.Ws.length:Int)<w):=by rw [hd];rintro (e | e | e)<;>first | cases e | omega
 revert hE;unfold zS;rw [zc e0];have hi:(w-1).toNat<s.Ws.length:=by omega
 have hx:=zKG hi;generalize s.Ws[(w-1).toNat]=x at hx;rw [hx];dsimp only;intro hE;obtain ⟨a,b,el,es,hab,hba⟩:=zuB hx;have ei:(((w-1).toNat:Nat):Int)+1=w:=by omega
 have hWX:=G.W _ x hx;have hWO:=G.E.W _ x hx;rw [ei] at hWX hWO;have X0:SX p nb s gh (wW x++(a++b).flatMap wW) k:=G.X.perm (by rw [el];exact ZW.symm);obtain ⟨gh',X',W',Fx,N,C,hN,hT⟩:=zIa hp hk hw X0 hWO hWX (fun o i=>G.E.H.get hp o i);have hoth:∀(j:Nat) y,j≠(w-1).toNat->s.Ws[j]? =some y->WX p (zu s w x).1 gh' ((j:Int)+1) y/\z5 (zu s w x).1 y=z5 s y:=by
  intro j y hj hy;have hjl:=(zKO.1 hy).1;exact WX.other hp (w:=(j:Int)+1) (by omega) X0 Fx (G.W j y hy) (G.E.W j y hy) (fun z hz=>zMb.2 ⟨y,hba j y hj hy,hz⟩) (fun e=>hj (by omega))
 have hbag:List.Perm (zsD p {(zu s w x).1 with Ws:=s.Ws.set (w-1).toNat (zu s w x).2} gh'++C) (N++zsD p s gh):=by
  unfold zsD;have q1:yL p {(zu s w x).1 with Ws:=s.Ws.set (w-1).toNat (zu s w x).2} gh'=yL p (zu s w x).1 gh':=rfl;have q2:(s.Ws.set (w-1).toNat (zu s w x).2).flatMap (z5 {(zu s w x).1 with Ws:=s.Ws.set (w-1).toNat (zu s w x).2})=(a++(zu s w x).2::b).flatMap (z5 (zu s w x).1):=by
   rw [es];exact wi (fun y _=>zd0 rfl rfl)
  have q3:(a++b).flatMap (z5 (zu s w x).1)=(a++b).flatMap (z5 s):=wi (fun y hy=>by
   obtain ⟨j,hj,hjy⟩:=hab y hy;exact (hoth j y hj hjy).2)
  rw [q1];show List.Perm (yL p (zu s w x).1 gh'++(s.Ws.set (w-1).toNat (zu s w x).2).flatMap (z5 {(zu s w x).1 with Ws:=s.Ws.set (w-1).toNat (zu s w x).2})++C) _;rw [q2];have r1:List.Perm (yL p (zu s w x).1 gh'++(a++(zu s w x).2::b).flatMap (z5 (zu s w x).1)++C) ((a++b).flatMap (z5 s)++(yL p (zu s w x).1 gh'++z5 (zu s w x).1 (zu s w x).2++C)):=by
   refine ((zKR _ ZW).append_right C).trans ?_;rw [q3,zKM,zKM,zKM];refine (zK9 _ _ _).trans ?_;refine (zKR _ (zK9 _ _ _)).trans ?_;refine (zK9 _ _ _).trans (zKR _ ?_);exact zK9 _ _ _
  have r2:List.Perm (N++(yL p s gh++s.Ws.flatMap (z5 s))) ((a++b).flatMap (z5 s)++(N++(yL p s gh++z5 s x))):=by
   conv=>lhs;rw [el]
   refine (zKR _ (zKR _ ZW)).trans ?_;refine (zKR _ ?_).trans (zK9 _ _ _);rw [<-zKM];exact zLs
  exact r1.trans ((zKR _ hN).trans r2.symm)
 have fin:zbS (zsD p {(zu s w x).1 with Ws:=s.Ws.set (w-1).toNat (zu s w x).2} gh') (zu s w x).1.T->WG p nb (k+1) {(zu s w x).1 with Ws:=s.Ws.set (w-1).toNat (zu s w x).2} gh':=by
  intro hB;refine ⟨hE,?_,fun j y hy=>?_,hB⟩
  .refine (X'.state hE.S rfl).perm ?_;show List.Perm ((s.Ws.set (w-1).toNat (zu s w x).2).flatMap wW) _;rw [es];exact ZW
  .have hy:(s.Ws.set (w-1).toNat (zu s w x).2)[j]? =some y:=hy;by_cases hj:j=(w-1).toNat
   .subst hj;rw [zLL hi] at hy;injection hy with hy;rw [<-hy,ei];exact W'.state rfl rfl
   .rw [zLf (fun e=>hj e.symm)] at hy;exact (hoth j y hj hy).1.state rfl rfl
 refine ⟨gh',?_⟩;rcases hT with ⟨rfl,rfl,t1⟩ | ⟨rfl,rfl,t1,t2,t3⟩ | ⟨rfl,rfl,t1,t2⟩
 .rw [zKI,zKP] at hbag;refine ⟨fin ⟨?_,hbag.nodup_iff.2 G.B.nd,fun o=>?_⟩,.inl t1⟩
  .rw [t1];exact G.B.blk
  .rw [t1,hbag.mem_iff];exact G.B.gr o
 .have ho:=((hWX.p6 t1).1).ob;rw [zKI] at hbag;refine ⟨fin ?_,.inr (.inl ⟨x,x.G.Obj,hx,t1,rfl,ho,(uJ ho).1 t2,t3⟩)⟩;rw [t3];exact G.B.more ho t2 hbag
 .rw [zKP] at hbag;obtain ⟨b1,b2,b3,b4⟩:=G.B.less hbag;refine ⟨fin ?_,.inr (.inr ⟨x,hx,t1,b3,?_⟩)⟩
  .rw [t2];exact b1
  .show (zu s w x).1.T=_;rw [t2];unfold xj;rw [zb b3]
theorem zp3 {N:Int}{nb:Nat}(hN:0<=N/\N<1000) (hnb:nb<1000):∀(l:List Int) (m:List (BitVec 64)) (a:Int),(∀x∈l,1<=x/\x<nb)->(∀x∈l,a≠N+x)->ld (links m N l) a=ld m a
 | [],m,a,_,_=>rfl
 | [x],m,a,h,h2=>by
  have:=h x (by simp);have:=h2 x (by simp);rw [links,yQ];exact yK (by omega)
 | x::y::l,m,a,h,h2=>by
  have:=h x (by simp);have:=h2 x (by simp);rw [links,zp3 hN hnb (y::l) _ a (fun z hz=>h z (zKN _ hz)) (fun z hz=>h2 z (zKN _ hz)),yQ];exact yK (by omega)
theorem zsl {N:Int}{nb:Nat}(hN:0<=N/\N<1000) (hnb:nb<1000):∀(l:List Int) (m:List (BitVec 64)),(∀x∈l,1<=x/\x<nb)->l.Nodup->N+nb<=m.length->Chn (links m N l) N nb (l.headD 0) l
 | [],m,_,_,_=>rfl
 | [x],m,h,_,hl=>by
  have:=h x (by simp);refine ⟨rfl,this.1,this.2,?_⟩;rw [links,yQ,Vo,zb ⟨rfl,by omega,by omega⟩];rfl
 | x::y::l,m,h,hd,hl=>by
  have hx:=h x (by simp);have hy:=h y (by simp);have hd:=List.nodup_cons.1 hd;refine ⟨rfl,hx.1,hx.2,?_⟩;have ih:=zsl hN hnb (y::l) (st m (wc (N+x)) (BitVec.ofInt 64 y)) (fun z hz=>h z (zKN _ hz)) hd.2 (by rw [YH];exact hl);rw [links,zp3 hN hnb (y::l) _ (N+x) (fun z hz=>h z (zKN _ hz)) (fun z hz e=>hd.1 (by rw [zpv e] at hz;exact hz)),yQ,Vo,zb ⟨rfl,by omega,by omega⟩,toInt_ofInt (by omega) (by omega)];rw [yQ] at ih;exact ih
theorem Chn.links {N:Int}{nb:Nat}(hN:0<=N/\N<1000) (hnb:nb<1000) {l r:List Int}{h:Int}{m:List (BitVec 64)}(hr:∀x∈r,1<=x/\x<nb) (hd:∀x∈l,x∉r) (c:Chn m N nb h l):Chn (Go.Pe.G.links m N r) N nb h l:=by
 induction l generalizing h with
 | nil=>exact c
 | cons y l ih =>
  refine ⟨c.1,c.2.1,c.2.2.1,?_⟩;rw [zp3 hN hnb r m (N+y) hr (fun z hz e=>hd y (by simp) (by rw [zpv e] at hz;exact hz))];exact ih (fun x hx=>hd x (zKN _ hx)) c.2.2.2
theorem zA7 {l:List Int}{nb:Nat}(h:∀x∈l,1<=x/\x<nb) (hnb:nb<1000):0<=l.headD 0/\l.headD 0<4294967296:=by
 cases l with
 | nil=>exact ⟨by decide,by decide⟩
 | cons a r=>have:=h a (by simp);show 0<=a/\a<4294967296;omega
theorem zFl {p:zd}(h:zI p):LI p (yg p+1) (xF p).M (yr p) (zU p) ((wa (yg p)).take (xH p).length) ((wa (yg p)).drop (xH p).length) []/\xR (ld (xF p).M (yr p))=0/\xR (ld (xF p).M (zU p))=0:=by
 have hb:=zej h;have hF:=Z8 h;have hE:=vd h;have hcl:=zaS p p.Workers.toNat;have hw:=h.wk;have hc:=h.cap;have hfe:yr p=((p.Workers.toNat*(p.Cap.toNat+2):Nat):Int):=by
  rw [hF.1];have e1:p.Workers=((p.Workers.toNat:Nat):Int):=by omega
  have e2:p.Cap+2=((p.Cap.toNat+2:Nat):Int):=by omega
  rw [e2,Int.natCast_mul];rw [<-e1]
 have hN:0<=zU p/\zU p<1000:=by omega
 have hnb:yg p+1<1000:=by omega
 generalize hk:(xH p).length=k;have t1:∀x∈(wa (yg p)).take k,1<=x/\x<((yg p+1:Nat):Int):=fun x hx=>by have:=zhe (zMd hx);omega
 have t2:∀x∈(wa (yg p)).drop k,1<=x/\x<((yg p+1:Nat):Int):=fun x hx=>by have:=zhe (List.mem_of_mem_drop hx);omega
 have nd:((wa (yg p)).take k++(wa (yg p)).drop k).Nodup:=by rw [zMj];exact zt4 (yg p+1)
 have nd3:=zLU.1 nd;have eM:(xF p).M=zeq (zeq (XB p p.Workers.toNat++List.replicate (2+yg p) 0#64) (yr p) (zU p) ((wa (yg p)).take k)) (zU p) (zU p) ((wa (yg p)).drop k):=by rw [<-hk];rfl
 rw [eM];generalize hm0:XB p p.Workers.toNat++List.replicate (2+yg p) 0#64=m0;have l0:zU p+((yg p+1:Nat):Int)<=m0.length:=by
  rw [<-hm0,zKS,hcl,zLl];omega
 have p1:=zA7 t1 hnb;have p2:=zA7 t2 hnb;have v0:∀n:Int,0<=n->n<4294967296->xR (xP 0#64 n)=0:=fun n h1 h2=>by
  unfold xR;rw [zwV _ h1 h2];show (0*4294967296+n.toNat)/4294967296=0;omega
 have c1:=zsl hN hnb _ m0 t1 nd3.1 l0;generalize hm1:links m0 (zU p) ((wa (yg p)).take k)=m1 at c1;have l1:m1.length=m0.length:=by rw [<-hm1,zeQ]
 have c1':=(c1.st_head h (a:=yr p) (v:=xP 0#64 (((wa (yg p)).take k).headD 0)) (.inl rfl)).links hN hnb t2 (fun x hx hx2=>nd3.2.2 x hx x hx2 rfl);have c2:=zsl hN hnb _ (st m1 (yr p) (xP 0#64 (((wa (yg p)).take k).headD 0))) t2 nd3.2.1 (by rw [YH,l1];exact l0);have hd1:ld (links (st m1 (yr p) (xP 0#64 (((wa (yg p)).take k).headD 0))) (zU p) ((wa (yg p)).drop k)) (yr p)=xP 0#64 (((wa (yg p)).take k).headD 0):=by
  rw [zp3 hN hnb _ _ _ t2 (fun x hx=>by have:=t2 x hx;omega),Vo,zb ⟨rfl,by omega,by omega⟩]
 unfold zeq;rw [hm1];generalize hm2:links (st m1 (yr p) (xP 0#64 (((wa (yg p)).take k).headD 0))) (zU p) ((wa (yg p)).drop k)=m2 at c1' c2 hd1;have l2:m2.length=m0.length:=by rw [<-hm2,zeQ,YH,l1]
 have g1:ld (st m2 (zU p) (xP 0#64 (((wa (yg p)).drop k).headD 0))) (yr p)=xP 0#64 (((wa (yg p)).take k).headD 0):=by rw [yK (by omega),hd1]
 have g2:ld (st m2 (zU p) (xP 0#64 (((wa (yg p)).drop k).headD 0))) (zU p)=xP 0#64 (((wa (yg p)).drop k).headD 0):=by rw [Vo,zb ⟨rfl,by omega,by omega⟩]
 refine ⟨⟨.inl ⟨rfl,rfl⟩,?_,?_,?_,by rw [YH,l2];exact l0⟩,?_,?_⟩
 .rw [g1,zeK _ p1.1 p1.2];exact c1'.st_head h (.inr rfl)
 .rw [g2,zeK _ p2.1 p2.2];exact c2.st_head h (.inr rfl)
 .rw [zKI,zMj];exact zK8 _
 .rw [g1];exact v0 _ p1.1 p1.2
 .rw [g2];exact v0 _ p2.1 p2.2
theorem zsA {N:Int}(hN:0<=N/\N<1000):∀(l:List Int) (m:List (BitVec 64)) (a:Int),(∀x∈l,1<=x/\x<1000)->a<=N->ld (links m N l) a=ld m a
 | [],m,a,_,_=>rfl
 | [x],m,a,h,h2=>by
  have:=h x (by simp);rw [links,yQ];exact yK (by omega)
 | x::y::l,m,a,h,h2=>by
  have:=h x (by simp);rw [links,zsA hN (y::l) _ a (fun z hz=>h z (zKN _ hz)) h2,yQ];exact yK (by omega)
theorem zIL {p:zd}(h:zI p) {a:Int}(ha:a<yr p):ld (xF p).M a=ld (XB p p.Workers.toNat++List.replicate (2+yg p) 0#64) a:=by
 have hb:=zej h;have hF:=Z8 h;have hE:=vd h;have t1:∀x∈(wa (yg p)).take (xH p).length,1<=x/\x<1000:=fun x hx=>by have:=zhe (zMd hx);omega
 have t2:∀x∈(wa (yg p)).drop (xH p).length,1<=x/\x<1000:=fun x hx=>by have:=zhe (List.mem_of_mem_drop hx);omega
 show ld (zeq (zeq _ (yr p) (zU p) _) (zU p) (zU p) _) a=_;unfold zeq;rw [yK (by omega),zsA (by omega) _ _ _ t2 (by omega),yK (by omega),zsA (by omega) _ _ _ t1 (by omega)]
theorem zyW (p:zd):∀(k i j:Nat),i<k->j<p.Cap.toNat+2->(XB p k)[i*(p.Cap.toNat+2)+j]? =(ziI p.Cap)[j]?
 | 0,i,j,h,_=>by omega
 | k+1,i,j,h,hj=>by
  rw [zon];have hl:=zaS p k;rcases zLh i k with h1 | h1
  .have h2:=zLG (p.Cap.toNat+2) (show i+1<=k from h1);rw [Nat.succ_mul] at h2;rw [zLb (by omega)];exact zyW p k i j h1 hj
  .have:i=k:=by omega
   subst this;rw [zLg (by omega),hl,show i*(p.Cap.toNat+2)+j-i*(p.Cap.toNat+2)=j by omega]
theorem zBQ {p:zd}(h:zI p) {w:Int}(hw:1<=w/\w<=p.Workers) {j:Nat}(hj:j<2):ld (xF p).M (z6 p w+j)=1#64:=by
 have hd:=Xa h hw.1 hw.2;have hc:=h.cap;have hl:=zaS p p.Workers.toNat;have hlt:(w-1).toNat<p.Workers.toNat:=by omega
 have e1:(z6 p w+j).toNat=(w-1).toNat*(p.Cap.toNat+2)+j:=by
  obtain ⟨n,hn⟩:∃n:Nat,w-1=(n:Int):=⟨(w-1).toNat,by omega⟩
  have e2:p.Cap+2=((p.Cap.toNat+2:Nat):Int):=by omega
  rw [hd.1,hn,e2,<-Int.natCast_mul,zLn];omega
 have h2:=zLG (p.Cap.toNat+2) (show (w-1).toNat+1<=p.Workers.toNat from hlt);rw [Nat.succ_mul] at h2;rw [zIL h (by omega)];unfold ld;rw [yf,e1,zKH,zLb (by omega),zyW p _ _ _ hlt (by omega)];unfold ziI
 match j,hj with
 | 0,_=>rfl
 | 1,_=>rfl
theorem ztS (n:Nat) (hn:1<=n):∀(f:Nat) (l:List Int),l.length<=f->(um n f l).flatten=l
 | 0,l,h=>by
  have:l=[]:=List.length_eq_zero_iff.1 (by omega);subst this;simp [um]
 | f+1,[],_=>by simp [um]
 | f+1,x::l,h=>by
  have:=ztS n hn f ((x::l).drop n) (by rw [zLW];simp at h ⊢;omega);simp only [um,List.flatten_cons] at this ⊢;rw [this,zMj]
theorem zFq {α:Type}(l:List (List α)):(List.range l.length).flatMap (fun i:Nat=>(l[i]?).getD [])=l.flatten:=by
 rw [List.flatMap_def];congr 1;apply List.ext_getElem
 .simp
 .intro i h1 h2;simp [zKG h2]
def gh0 (p:zd):Gh:=⟨(wa (yg p)).take (xH p).length,(wa (yg p)).drop (xH p).length,fun _=>[],fun _=>1,fun _=>0⟩
theorem zcy {α β:Type}{f:α->List β}:∀ {l:List α},(∀x∈l,f x=[])->l.flatMap f=[]
 | [],_=>rfl
 | a::l,h=>by rw [zLw,h a (by simp),zcy (fun x hx=>h x (zKN _ hx))];rfl
theorem zDi {p:zd}(h:zI p):yL p (xF p) (gh0 p)=Vq (uN p):=by
 have hb:=h.bin;have hfl:=zp5 h;have hbs:=zej h;have hmost:=h.most;have hw:=h.wk;have hm:=h.mt;have e1:yL p (xF p) (gh0 p)=((wa (yg p)).take (xH p).length).flatMap (yT (xF p)):=by
  show ((wa (yg p)).take (xH p).length).flatMap (yT (xF p))++(List.range p.Workers.toNat).flatMap (fun _=>([]:List Int))=_;rw [zcy (f:=fun _=>([]:List Int)) (fun _ _=>rfl),zKI]
 have e2:(wa (yg p)).take (xH p).length=(List.range (xH p).length).map (fun i:Nat=>(i:Int)+1):=by
  unfold wa;rw [<-List.map_take,List.take_range,Nat.min_eq_left (by omega)]
 rw [e1,e2,List.flatMap_map];have e3:(List.range (xH p).length).flatMap (fun i:Nat=>yT (xF p) ((i:Int)+1))=(List.range (xH p).length).flatMap (fun i:Nat=>((xH p)[i]?).getD []):=by
  refine wi (fun i hi=>?_);have hi:=zK7.1 hi;unfold yT;show (([[]]++xH p++List.replicate (yg p-(xH p).length) [])[((i:Int)+1).toNat]?).getD []=_;rw [show ((i:Int)+1).toNat=i+1 by omega,zKM];show ((xH p++List.replicate (yg p-(xH p).length) [])[i]?).getD []=_;rw [zLb hi]
 rw [e3,zFq];exact ztS _ (by omega) _ _ (zKJ _)
theorem zCY (s:BitVec 64):(Vq s).Nodup:=by
 unfold Vq;rw [List.Nodup,List.pairwise_map];exact (List.nodup_range.filter _).imp (fun h e=>h (by omega))
theorem zD6 {s:BitVec 64}(h:s&&& ~~~63#64=0#64) {j:Nat}(hs:s.getLsbD j=true):j<6:=by
 have hj:j<64:=BitVec.lt_of_getLsbD hs;have:=congrArg (fun x=>x.getLsbD j) h;simp only [zLT,zMm,hs,hj,decide_true,zLD,zMa] at this;have h63:(63#64).getLsbD j=decide (j<6):=by
  have:∀j:Fin 64,(63#64).getLsbD j.1=decide (j.1<6):=by decide
  exact this ⟨j,hj⟩
 rw [h63] at this;by_cases e:j<6
 .exact e
 .rw [zL e] at this;cases this
theorem zGd {s:BitVec 64}(h:s&&& ~~~63#64=0#64) (o:Int):o∈Vq s↔zP s o=true:=by
 unfold Vq;rw [xL,zKT];constructor
 .rintro ⟨i,hi,rfl⟩;obtain ⟨h1,h2⟩:=zL0.1 hi;have:=zK7.1 h1;exact ⟨by omega,by omega,by rw [show ((i:Int)+1-1).toNat=i by omega];exact h2⟩
 .rintro ⟨h1,h2,h3⟩;exact ⟨(o-1).toNat,zL0.2 ⟨zK7.2 (zD6 h h3),h3⟩,by omega⟩
theorem zJf {p:zd}(h:zI p):WG p (yg p+1) 0 (xF p) (gh0 p):=by
 have hE:=zAC h;obtain ⟨L,v1,v2⟩:=zFl h;have hc:=h.cap;have hws:∀x∈(xF p).Ws,∃i:Nat,x=uA p i:=fun x hx=>by
  obtain ⟨i,_,rfl⟩:=zKT.1 (show x∈(List.range p.Workers.toNat).map (uA p) from hx);exact ⟨i,rfl⟩
 have hb:∀i:Nat,uA p i=zay p ((i:Int)+1) (uA p i):=fun i=>rfl;have own:(xF p).Ws.flatMap wW=[]:=zcy (fun x hx=>by
  obtain ⟨i,rfl⟩:=hws x hx;exact uO (by show (0:Int)≠3;decide) (by show (0:Int)≠4;decide) (by show (0:Int)≠6;decide))
 have hold:(xF p).Ws.flatMap (z5 (xF p))=[]:=zcy (fun x hx=>by
  obtain ⟨i,rfl⟩:=hws x hx;unfold z5;rw [hb i,zkA];rfl)
 refine ⟨hE,⟨hE.S,by rw [own];exact L,fun w h1 h2=>?_,?_,fun w _ _=>by show 1+0<=0+1000;decide⟩,fun i x hx=>?_,?_⟩
 .have c0:=zBQ h ⟨h1,h2⟩ (j:=0) (by decide);have c1:=zBQ h ⟨h1,h2⟩ (j:=1) (by decide);rw [show z6 p w+((0:Nat):Int)=z6 p w by omega] at c0;exact ⟨c0,c1,by show (0:Nat)<=1;decide,by show (1:Nat)<=1;decide,zLI _,by show 1+0<4294967296;decide,fun i hi=>zm hi (Nat.not_lt_zero _)⟩
 .rw [v1,v2];exact ⟨zKJ _,zKJ _⟩
 .have hx:((List.range p.Workers.toNat).map (uA p))[i]? =some x:=hx;rw [zLe] at hx;cases hr:(List.range p.Workers.toNat)[i]? with
  | none=>rw [hr] at hx;cases hx
  | some j =>
   rw [hr] at hx;injection hx with hx;obtain ⟨h1,h2⟩:=zKO.1 hr;rw [List.getElem_range] at h2;subst h2;rw [<-hx,hb i];exact WX.begin rfl rfl
 .have hs:=zh5 h;unfold zsD;rw [hold,zKI,zDi h];refine ⟨fun o ho=>zm ho (Yj o),zCY _,fun o=>?_⟩;rw [zGd hs,w8];exact ⟨fun e=>⟨e,Yj o⟩,fun e=>e.1⟩
theorem zyO (n:Nat) (hn:1<=n):∀(f:Nat) (l c:List Int),c∈um n f l->c≠[]
 | 0,l,c,h=>by simp [um] at h
 | f+1,[],c,h=>by simp [um] at h
 | f+1,x::l,c,h=>by
  simp only [um,zKW] at h;rcases h with h | h
  .rw [h]
   match n,hn with
   | m+1,_=>exact List.cons_ne_nil _ _
  .exact zyO n hn f _ c h
theorem zJk {p:zd}(h:zI p):∀y∈(gh0 p).F,yT (xF p) y≠[]:=by
 intro y hy;have hb:=h.bin;have hfl:=zp5 h;have hbs:=zej h;have hmost:=h.most;have hw:=h.wk;have hm:=h.mt;have hy:y∈(wa (yg p)).take (xH p).length:=hy;have e2:(wa (yg p)).take (xH p).length=(List.range (xH p).length).map (fun i:Nat=>(i:Int)+1):=by
  unfold wa;rw [<-List.map_take,List.take_range,Nat.min_eq_left (by omega)]
 rw [e2] at hy;obtain ⟨i,hi,rfl⟩:=zKT.1 hy;have hi:=zK7.1 hi;unfold yT;show (([[]]++xH p++List.replicate (yg p-(xH p).length) [])[((i:Int)+1).toNat]?).getD []≠[];rw [show ((i:Int)+1).toNat=i+1 by omega,zKM];show ((xH p++List.replicate (yg p-(xH p).length) [])[i]?).getD []≠[];rw [zLb hi,zKG hi];exact zyO _ (by omega) _ _ _ (zK1 hi)
def noD (base cap:Int):zg:=⟨0,0,base,cap,0#64,0#64,0,0⟩
def zlj (o:zg):Prop:=o.Kind=2/\o.Out=0/\(o.PC=2\/o.PC=4\/o.PC=5\/(o.PC=3/\o.T=o.B-1#64))
instance (o:zg):Decidable (zlj o):=by unfold zlj;infer_instance
def zhu (m:List (BitVec 64)) (base:Int) (o:zg):BitVec 64:=if zlj o then ld m (wc (base+1))+1#64 else ld m (wc (base+1))
def Xr (m:List (BitVec 64)) (base cap:Int) (top:BitVec 64) (n:Nat):List Int:=(List.range n).map (fun j:Nat=>(ld m (Xy (noD base cap) (top+BitVec.ofNat 64 j))).toInt)
def zas (m:List (BitVec 64)) (base cap:Int) (o:zg):List Int :=
 if ¬0<(zhu m base o-ld m base).toInt\/(min (uZ (noD base cap)).toNat 64)<(zhu m base o-ld m base).toNat then []
 else Xr m base cap (ld m base) (zhu m base o-ld m base).toNat
theorem zIh {p:zd}(h:zI p) (b:Int):(uZ (noD b p.Cap)).toNat=p.Cap.toNat:=by
 have hc:=h.cap;have hx:p.Cap=1\/p.Cap=2\/p.Cap=3:=by omega
 unfold uZ noD;rcases hx with e | e | e<;>simp only [e]<;>decide
theorem zDk {a b:Nat}(h:b<=a) (h2:a<4294967296):BitVec.ofNat 64 a-BitVec.ofNat 64 b=BitVec.ofNat 64 (a-b):=zjk h (by omega)
theorem zBU {p:zd}(h:zI p) {m:List (BitVec 64)}{w:Int}{t c:Nat}{l:List Int}{o:zg}(hw:1<=w/\w<=p.Workers) (D:DQ p m w t l c) (he:zhu m (z6 p w) o=BitVec.ofNat 64 (t+l.length)):zas m (z6 p w) p.Cap o=l:=by
 have hs:=D.small;have hcap:=D.cap;have hc:=h.cap;have ed:zhu m (z6 p w) o-ld m (z6 p w)=BitVec.ofNat 64 l.length:=by
  rw [he,D.top,zDk (by omega) hs];congr 1;omega
 unfold zas;rw [ed,Yo (by omega),zIh h];by_cases hl:l=[]
 .subst hl;rw [zb (.inl (by decide))]
 .have hpos:0<l.length:=List.length_pos_iff.2 hl;have:0<(BitVec.ofNat 64 l.length).toInt:=by
   have:=(zi2 (a:=t+l.length) (b:=t) hs (by omega)).2 (by omega);rw [zDk (by omega) hs] at this;rwa [show t+l.length-t=l.length by omega] at this
  rw [zi];unfold Xr;apply List.ext_getElem
  .simp
  .intro i h1 h2;rw [List.getElem_map,List.getElem_range,D.top,zeC (by omega),zi4 h hw rfl rfl (by omega),D.cell i h2]
theorem zGz {p:zd}(h:zI p) {m:List (BitVec 64)}{w:Int}{t c:Nat}{o:zg}(D:DQ p m w t [] c) (he:zhu m (z6 p w) o=BitVec.ofNat 64 (t-1)):zas m (z6 p w) p.Cap o=[]:=by
 have hs:=D.small;unfold zas;refine zb (.inl (fun e=>?_));rw [he,D.top] at e;have:=(zi2 (by have:t+0<4294967296:=hs;omega) (by have:t+0<4294967296:=hs;omega)).1 e;omega
theorem zAL {p:zd}(h:zI p) {w:Int}(hw:1<=w/\w<=p.Workers):wc (z6 p w+1)=z6 p w+1:=by
 have hd:=Xa h hw.1 hw.2;have hf:=Z8 h;have hc:=h.cap;exact yQ
theorem zul {p:zd}(h:zI p) {m:List (BitVec 64)}{w:Int}{t:Nat}{l:List Int}{o:zg}(hw:1<=w/\w<=p.Workers) (D:DQ p m w t l 0) (ho: ¬zlj o):zas m (z6 p w) p.Cap o=l:=by
 refine zBU h hw D ?_;unfold zhu;rw [zc ho,zAL h hw,D.bot];rfl
theorem zFd {p:zd}(h:zI p) {m:List (BitVec 64)}{w:Int}{t c:Nat}{l:List Int}{o:zg}(hw:1<=w/\w<=p.Workers) (D:DQ p m w t l c) (K:PK p m w t l c o):zas m (z6 p w) p.Cap o=l:=by
 have hs:=D.small;have ht:=D.t1;have hpc:=K.pc;by_cases h1:zlj o
 .have hc:c=1:=by
   rcases h1.2.2 with e | e | e | ⟨e,e2⟩
   .exact K.c1 (.inl e)
   .exact K.c1 (.inr (by omega))
   .exact K.c1 (.inr (by omega))
   .exact K.c3 e e2
  subst hc;refine zBU h hw D ?_;unfold zhu;rw [zb h1,zAL h hw,D.bot,show (1#64:BitVec 64)=BitVec.ofNat 64 1 from rfl,zeC (by omega)];congr 1;omega
 .have hn: ¬(o.PC=2\/o.PC=4\/o.PC=5\/(o.PC=3/\o.T=o.B-1#64)):=fun e=>h1 ⟨K.kind,K.out,e⟩;by_cases h6:o.PC=6
  .have hl:=K.e5 (by omega);have hc:=K.c1 (.inr (by omega));subst hl;subst hc;refine zGz h D ?_;unfold zhu;rw [zc h1,zAL h hw,D.bot];rfl
  .have hc:c=0:=by
    by_cases h3:o.PC=3
    .exact (K.n3 h3 (fun e=>hn (.inr (.inr (.inr ⟨h3,e⟩))))).1
    .exact K.c0 (by omega)
   subst hc;exact zul h hw D h1
theorem zHM:∀(t:Fin 512) (k:Fin 9),BitVec.ofNat 64 t.1|||bit ((k.1:Int)+1)=BitVec.ofNat 64 t.1\/cnt (BitVec.ofNat 64 t.1|||bit ((k.1:Int)+1))=cnt (BitVec.ofNat 64 t.1)+1:=by decide +kernel
theorem zBO {s:BitVec 64}(h:∀o,zP s o=true->o<=9):∃t:Fin 512,s=BitVec.ofNat 64 t.1:=by
 have h2:s=s&&&511#64:=by
  apply zL9;intro j hj;rw [zLT];have h63:(511#64).getLsbD j=decide (j<9):=by
   have:∀j:Fin 64,(511#64).getLsbD j.1=decide (j.1<9):=by decide
   exact this ⟨j,hj⟩
  rw [h63];cases hs:s.getLsbD j with
  | false=>rfl
  | true =>
   have:=h ((j:Int)+1) ((xL _ _).2 ⟨by omega,by omega,by rw [show ((j:Int)+1-1).toNat=j by omega];exact hs⟩);rw [zw (by omega:j<9)];rfl
 have h3:s.toNat<512:=by
  rw [h2,zLK];exact zMn Nat.and_le_right (by decide)
 exact ⟨⟨s.toNat,h3⟩,by rw [BitVec.ofNat_toNat,BitVec.setWidth_eq]⟩
theorem zFx {s:BitVec 64}(h:∀o,zP s o=true->o<=9) {o:Int}(ho:1<=o/\o<=9) (hn: ¬zP s o=true):cnt (s|||bit o)=cnt s+1:=by
 obtain ⟨t,rfl⟩:=zBO h;have:=zHM t ⟨(o-1).toNat,by omega⟩;rw [show (((o-1).toNat:Nat):Int)+1=o by omega] at this;rcases this with e | e
 .exact zm e ((uJ ⟨ho.1,by omega⟩).2 hn)
 .exact e
theorem zBj:∀(l:List Int) (s:BitVec 64) (q:Int),(∀o∈l,1<=o/\o<=64)->(zP (l.foldl (fun s o=>s|||bit o) s) q=true↔zP s q=true\/q∈l)
 | [],s,q,_=>by simp
 | a::l,s,q,h=>by
  rw [zLv,zBj l _ q (fun o ho=>h o (zKN _ ho)),yO _ (h a (by simp)),zKW,or_assoc]
theorem zAH:∀(l:List Int) (s:BitVec 64),(∀o∈l,1<=o/\o<=9)->(∀o,zP s o=true->o<=9)->l.Nodup->(∀o∈l,¬zP s o=true)->cnt (l.foldl (fun s o=>s|||bit o) s)=cnt s+(l.length:Int)
 | [],s,_,_,_,_=>by simp
 | a::l,s,h,hs,hd,hn=>by
  have ha:=h a (by simp);have hd:=List.nodup_cons.1 hd;have ha64:1<=a/\a<=64:=by omega
  rw [zLv,zAH l _ (fun o ho=>h o (zKN _ ho)) (fun o ho=>?_) hd.2 (fun o ho e=>?_),zFx hs ha (hn a (by simp)),zKV]
  .omega
  .rcases (yO _ ha64 o).1 ho with e | e
   .exact hs o e
   .omega
  .rcases (yO _ ha64 o).1 e with e | e
   .exact hn o (zKN _ ho) e
   .exact hd.1 (e▸ho)
theorem zEY:∀t:Fin 512,cnt (BitVec.ofNat 64 t.1)<=9:=by decide +kernel
theorem zwg {s:BitVec 64}(h:∀o,zP s o=true->o<=9):cnt s<=9:=by
 obtain ⟨t,rfl⟩:=zBO h;exact zEY t
theorem zBJ:cnt 0#64=0:=by decide +kernel
theorem zDx {l:List Int}(h:∀o∈l,1<=o/\o<=9) (hd:l.Nodup):cnt (UY l)=(l.length:Int)/\∀q,zP (UY l) q=true↔q∈l:=by
 refine ⟨?_,fun q=>?_⟩
 .unfold UY;rw [zAH l _ h (fun o e=>zm e (Yj o)) hd (fun o _=>Yj o),zBJ,Int.zero_add]
 .unfold UY;rw [zBj l _ q (fun o ho=>by have:=h o ho;omega)];exact ⟨fun e=>e.resolve_left (Yj q),.inr⟩
theorem zcE (s:BitVec 64) {q:Int}(h:1<=q/\q<=64):zP (~~~s) q=true↔¬zP s q=true:=by
 rw [xL,xL,zMm];simp only [show (q-1).toNat<64 by omega,decide_true,zLD,zKX];constructor
 .rintro ⟨_,_,e⟩ ⟨_,_,e2⟩;rw [e] at e2;cases e2
 .intro e;refine ⟨h.1,h.2,?_⟩;cases hs:s.getLsbD (q-1).toNat with
  | false=>rfl
  | true=>exact zm ⟨h.1,h.2,hs⟩ e
structure zHz (s:za):Prop where
 mks:∀o,zP s.T.Marks o=true->o<=9
 ob:∀(i:Nat) x,s.Ws[i]? =some x->x.PC=6->x.G.Obj<=9
theorem HOk.get9 {p:zd}(hp:zI p) {h:zr}(H:HOk p h) (o i:Int):zW h o i<=9:=by
 have h1:=H.n;have h2:p.Most<=9:=by have:=hp.most;have:=hp.n;omega
 unfold zW;split
 .unfold zR;rw [zKH,zKH];cases hx:h.Objs[(o-1).toNat]? with
  | none=>show (([]:List Int)[i.toNat]?).getD 0<=9;simp
  | some l =>
   show (l[i.toNat]?).getD 0<=9;cases hv:l[i.toNat]? with
   | none=>show (0:Int)<=9;decide
   | some v =>
    have:=(H.objs l (zKK hx)).2 v (zKK hv);show v<=9;omega
 .decide
theorem zHz.step {p:zd}(hp:zI p) {nb k:Nat}{s:za}{gh:Gh}(L:zHz s) (G:WG p nb k s gh) {w:Int}(hw:1<=w/\w<=p.Workers) (hd:s.Done=false) (T:zH9 s (zS s w) w):zHz (zS s w):=by
 have hwl:=G.E.wl;refine ⟨fun o ho=>?_,fun i y hy h6=>?_⟩
 .rcases T with e | ⟨x,q,hx,h6,rfl,hr,hn,e⟩ | ⟨x,hx,h8,h1,e⟩
  .rw [e] at ho;exact L.mks o ho
  .rw [e] at ho;rcases (yO _ hr o).1 ho with e | e
   .exact L.mks o e
   .rw [e];exact L.ob _ x hx h6
  .rw [e] at ho;exact L.mks o ho
 .have e0: ¬(s.Done=true\/w<1\/(s.Ws.length:Int)<w):=by rw [hd];rintro (e | e | e)<;>first | cases e | omega
  have hi:(w-1).toNat<s.Ws.length:=by omega
  have hx:=zKG hi;generalize s.Ws[(w-1).toNat]=x at hx;unfold zS at hy;rw [zc e0,hx] at hy;have hy:(s.Ws.set (w-1).toNat (zu s w x).2)[i]? =some y:=hy;by_cases hj:i=(w-1).toNat
  .subst hj;rw [zLL hi] at hy;injection hy with hy;subst hy;rcases zvl s w x h6 with ⟨a,b⟩ | ⟨a,b⟩
   .rw [b];exact L.ob _ x hx a
   .rw [b];exact G.E.H.get9 hp _ _
  .rw [zLf (fun e=>hj e.symm)] at hy;exact L.ob i y hy h6
theorem zza {α β:Type}{f g:α->List β}:∀(l:List α),List.Perm (l.flatMap (fun x=>f x++g x)) (l.flatMap f++l.flatMap g)
 | []=>zK8 _
 | a::l=>by
  rw [zLw,zLw,zLw];refine (zKR _ (zza l)).trans ?_;simp only [zKM];exact zKR _ (zK9 _ _ _)
theorem zwF {α β:Type}{f:α->List β}(l:List α):(List.range l.length).flatMap (fun i:Nat=>(l[i]?).elim [] f)=l.flatMap f:=by
 rw [List.flatMap_def,List.flatMap_def];congr 1;apply List.ext_getElem
 .simp
 .intro i h1 h2;have hi:i<l.length:=by simpa using h2
  simp [zKG hi]
theorem zEV {m:List (BitVec 64)}{base cap:Int}{top:BitVec 64}(hc:cap<1000) (e:BitVec 64) (h:(e-top).toNat<=64) :
  yc yy (m,e,top,zg.mk 0 0 base cap 0#64 0#64 0 0,([]:List Int),())=some (.brk (Xr m base cap top (e-top).toNat,())):=by
 have he:e=top+BitVec.ofNat 64 (e-top).toNat:=by
  rw [BitVec.ofNat_toNat,BitVec.setWidth_eq,BitVec.add_comm,BitVec.sub_add_cancel]
 generalize (e-top).toNat=n at he h;subst he;have:=zIs (f:=yy) (fun (i:Int) (_:Unit)=>(m,top+BitVec.ofNat 64 n,top+BitVec.ofNat 64 i.toNat,zg.mk 0 0 base cap 0#64 0#64 0 0,Xr m base cap top i.toNat,())) (fun _=>(Xr m base cap top n,())) n (by omega) (fun _ _=>()) (fun _=>True) (fun _ _ _=>trivial)
  (fun i _ hi _=>by
   have hne: ¬(top+BitVec.ofNat 64 i=top+BitVec.ofNat 64 n):=fun e=>by
    have e:=congrArg (fun x=>x-top) e;rw [BitVec.add_comm top,BitVec.add_comm top,BitVec.add_sub_cancel,BitVec.add_sub_cancel] at e;have:=zyJ (by omega) (by omega) e;omega
   have e2:top+BitVec.ofNat 64 i+1#64=top+BitVec.ofNat 64 (i+1):=by
    rw [BitVec.add_assoc,show (1#64:BitVec 64)=BitVec.ofNat 64 1 from rfl,zeC (by omega)]
   have e3:Xr m base cap top (i+1)=Xr m base cap top i++[(ld m (Xy (zg.mk 0 0 base cap 0#64 0#64 0 0) (top+BitVec.ofNat 64 i))).toInt]:=by
    unfold Xr noD;rw [zL2,List.map_append];rfl
   have el:(Xr m base cap top i).length=i:=by unfold Xr;simp
   show yy (m,top+BitVec.ofNat 64 n,top+BitVec.ofNat 64 i,zg.mk 0 0 base cap 0#64 0#64 0 0,Xr m base cap top i,())=some (.again (m,top+BitVec.ofNat 64 n,top+BitVec.ofNat 64 (i+1),zg.mk 0 0 base cap 0#64 0#64 0 0,Xr m base cap top (i+1),()));rw [zgi,yq,zc hne,zhY (show (zg.mk 0 0 base cap 0#64 0#64 0 0).Cap<1000 from hc),zKE,Xi,zKE,yR (by rw [zKS,el];simp;omega),zKE,e2,e3])
  (fun _ _=>by
   show yy (m,top+BitVec.ofNat 64 n,top+BitVec.ofNat 64 n,zg.mk 0 0 base cap 0#64 0#64 0 0,Xr m base cap top n,())=_;rw [zgi,yq,zb rfl]) (s:=()) trivial
 have e0:top+BitVec.ofNat 64 (0:Int).toNat=top:=by show top+0#64=top;rw [BitVec.add_zero]
 simp only [e0] at this;exact this
theorem zIZ (S d:BitVec 64):((bif decide (64#64<S) then 64#64 else S)<d)↔min S.toNat 64<d.toNat:=by
 rw [zq];by_cases h:64#64<S
 .rw [zb h];have h':64<S.toNat:=h;show 64<d.toNat↔_;rw [Nat.min_eq_right (by omega)]
 .rw [zc h];have h': ¬64<S.toNat:=h;show S.toNat<d.toNat↔_;rw [Nat.min_eq_left (by omega)]
theorem zCA {m:List (BitVec 64)}{base cap:Int}(hc:cap<1000) (o:zg):wI m base cap o=some (zas m base cap o,()):=by
 have hl:=fun e h=>zEV (m:=m) (base:=base) (cap:=cap) (top:=ld m base) hc e h;have hlim:=fun d=>zIZ (uZ (noD base cap)) d;unfold noD at hlim;have done:∀e:BitVec 64,∀ {b:Option (List Int×Unit)},(¬0<(e-ld m base).toInt->b=some ([],()))->(0<(e-ld m base).toInt->(min (uZ (noD base cap)).toNat 64<(e-ld m base).toNat)->b=some ([],()))->(0<(e-ld m base).toInt->¬(min (uZ (noD base cap)).toNat 64<(e-ld m base).toNat)->b=some (Xr m base cap (ld m base) (e-ld m base).toNat,())) ->
   b=some (if ¬0<(e-ld m base).toInt\/(min (uZ (noD base cap)).toNat 64)<(e-ld m base).toNat then [] else Xr m base cap (ld m base) (e-ld m base).toNat,()):=by
  intro e b h1 h2 h3;by_cases a:0<(e-ld m base).toInt
  .by_cases c:min (uZ (noD base cap)).toNat 64<(e-ld m base).toNat
   .rw [zb (.inr c)];exact h2 a c
   .rw [zc (by rintro (x | x);exact x a;exact c x)];exact h3 a c
  .rw [zb (.inl a)];exact h1 a
 rw [zuZ];simp only [ZQ,xV,xT,zKE,Xi,zei,zqp];unfold zas;by_cases h:zlj o
 .have he:zhu m base o=ld m (wc (base+1))+1#64:=by unfold zhu;rw [zb h]
  rw [he];obtain ⟨k,u,pc⟩:=h;rcases pc with p | p | p | ⟨p,t⟩
  all_goals
   first | simp only [k,u,p,t,Int.reduceEq,decide_true,decide_false,zA,zM] | simp only [k,u,p,Int.reduceEq,decide_true,decide_false,zA,zM]
   generalize ld m (wc (base+1))+1#64=e;refine done e (fun a=>?_) (fun a c=>?_) (fun a c=>?_)
   .simp only [zL a,Bool.not_false,zA]
   .simp only [zw a,zKY,zM];rw [zq,zb ((hlim (e-ld m base)).2 c)]
   .simp only [zw a,zKY,zM];rw [zq,zc (fun x=>c ((hlim (e-ld m base)).1 x)),hl e (by omega)];rfl
 .have he:zhu m base o=ld m (wc (base+1)):=by unfold zhu;rw [zc h]
  rw [he];have fin:∀b:Option (List Int×Unit),(b=(bif !decide (0<(ld m (wc (base+1))-ld m base).toInt) then some ([],()) else bif decide ((bif decide (64#64<uZ (noD base cap)) then 64#64 else uZ (noD base cap))<(ld m (wc (base+1))-ld m base)) then some ([],()) else (yc yy (m,ld m (wc (base+1)),ld m base,zg.mk 0 0 base cap 0#64 0#64 0 0,([]:List Int),())).bind (fun st=>match st with | .again _=>none | .brk y=>some (y.1,()) | .ret y=>none)))->b=some (if ¬0<(ld m (wc (base+1))-ld m base).toInt\/(min (uZ (noD base cap)).toNat 64)<(ld m (wc (base+1))-ld m base).toNat then [] else Xr m base cap (ld m base) (ld m (wc (base+1))-ld m base).toNat,()):=by
   intro b hb;rw [hb];generalize ld m (wc (base+1))=e;refine done e (fun a=>?_) (fun a c=>?_) (fun a c=>?_)
   .simp only [zL a,Bool.not_false,zA]
   .simp only [zw a,zKY,zM];rw [zq];exact zb ((hlim (e-ld m base)).2 c)
   .simp only [zw a,zKY,zM];rw [zq];refine (zc (fun x=>c ((hlim (e-ld m base)).1 x))).trans ?_;rw [hl e (by omega)];rfl
  refine fin _ ?_;by_cases k:o.Kind=2
  .by_cases u:o.Out=0
   .have pc: ¬(o.PC=2\/o.PC=4\/o.PC=5\/(o.PC=3/\o.T=o.B-1#64)):=fun e=>h ⟨k,u,e⟩;have p2: ¬o.PC=2:=fun e=>pc (.inl e);have p4: ¬o.PC=4:=fun e=>pc (.inr (.inl e));have p5: ¬o.PC=5:=fun e=>pc (.inr (.inr (.inl e)));by_cases p3:o.PC=3
    .have t: ¬o.T=o.B-1#64:=fun e=>pc (.inr (.inr (.inr ⟨p3,e⟩)));simp only [zw k,zw u,zL p2,zL p4,zL p5,zw p3,zL t,zA,zM];rfl
    .simp only [zw k,zw u,zL p2,zL p4,zL p5,zL p3,zA,zM];rfl
   .simp only [zw k,zL u,zA,zM];rfl
  .simp only [zL k,zA,zM];rfl
theorem zFA (m:List (BitVec 64)) (base cap:Int) (o:zg):(zas m base cap o).length<=64:=by
 unfold zas;split
 .simp
 .rename_i h;unfold Xr;rw [zLA,List.length_range];omega
def u7 (x:ze):List Int:=if x.PC=33\/x.PC=34 then [x.Bin] else if x.PC=3\/x.PC=37 then wT x.G else []
def zcf (s:za) (x:ze):List Int:=if x.PC=33 then yT s x.Bin else if x.PC=36\/x.PC=38 then [x.Obj] else if x.PC=37 then x.Obj::yE x.G else if x.PC=3 then yE x.G else []
def yn (s:za) (x:ze):List Int:=x.Batch++zcf s x
structure MX (p:zd) (s:za) (gh:Gh) (x:ze):Prop where
 bt:x.PC<=33->x.Batch=[]
 bf:∀v∈x.Buf,1<=v/\v<=64
 ol:(x.PC=21->0<=x.Old/\x.Old<=64)/\(x.PC=22\/((x.PC=1\/x.PC=3)/\x.Ret=22)->1<=x.Old/\x.Old<=64)
 p3:x.PC=3->GX p s gh x.G/\x.G.Mode=2/\x.G.Out=0
 p32:x.PC=32->x.C.Out=0/\(0<=x.C.PC/\x.C.PC<=2)/\CK p s.M x.C
 p34:x.PC=34->x.C.Out=0/\(0<=x.C.PC/\x.C.PC<=2)/\x.C.X=x.Bin/\CK p s.M x.C
 p37:x.PC=37->GX p s gh x.G/\x.G.Mode=3/\x.G.Out=0
theorem MX.plain {p:zd}{s:za}{gh:Gh}{x:ze}(h:x.PC≠3/\x.PC≠32/\x.PC≠34/\x.PC≠37) (bt:x.PC<=33->x.Batch=[]) (bf:∀v∈x.Buf,1<=v/\v<=64)
  (ol:(x.PC=21->0<=x.Old/\x.Old<=64)/\(x.PC=22\/((x.PC=1\/x.PC=3)/\x.Ret=22)->1<=x.Old/\x.Old<=64)):MX p s gh x :=
 ⟨bt,bf,ol,fun e=>by omega,fun e=>by omega,fun e=>by omega,fun e=>by omega⟩
theorem ux {x:ze}(h:x.PC≠3/\x.PC≠33/\x.PC≠34/\x.PC≠37):u7 x=[]:=by unfold u7;rw [zi,zi]
theorem zem {x:ze}(h:x.PC=33\/x.PC=34):u7 x=[x.Bin]:=by unfold u7;rw [zb h]
theorem ziE {x:ze}(h:x.PC=3\/x.PC=37):u7 x=wT x.G:=by unfold u7;rw [zi,zb h]
theorem Zo {s:za}{x:ze}(h:x.PC≠3/\x.PC≠33/\x.PC≠36/\x.PC≠37/\x.PC≠38):zcf s x=[]:=by unfold zcf;rw [zi,zi,zi,zi]
theorem zta {s:za}{x:ze}(h:x.PC=33):zcf s x=yT s x.Bin:=by unfold zcf;rw [zb h]
theorem zad {s:za}{x:ze}(h:x.PC=36\/x.PC=38):zcf s x=[x.Obj]:=by unfold zcf;rw [zi,zb h]
theorem zs1 {s:za}{x:ze}(h:x.PC=37):zcf s x=x.Obj::yE x.G:=by unfold zcf;rw [zi,zi,zb h]
theorem zrV {s:za}{x:ze}(h:x.PC=3):zcf s x=yE x.G:=by unfold zcf;rw [zi,zi,zi,zb h]
theorem MX.other {p:zd}(hp:zI p) {nb k:Nat}{s s':za}{gh gh':Gh}{X R:List Int}{O:Int->Prop}{m:Int}{x:ze}(Y:SX p nb s gh (X++R) k) (Fx:FX p nb X O s s' gh gh') (K:MX p s gh x) (W:XOk p nb m x)
  (hR:∀b∈u7 x,b∈R):MX p s' gh' x/\yn s' x=yn s x:=by
 have hsub:∀b∈X,b∈X++R:=fun b hb=>zKZ _ hb;have hnd:=(zLU.1 Y.L.nodup).2.1;have hnot:∀b,b∈u7 x->b∉X:=fun b hb hg=>(zLU.1 hnd).2.2 b hg b (hR b hb) rfl;refine ⟨⟨K.bt,K.bf,K.ol,fun e=>?_,fun e=>?_,fun e=>?_,fun e=>?_⟩,?_⟩
 .obtain ⟨a,b,c⟩:=K.p3 e;obtain ⟨M,_,_⟩:=W.g (.inl e);exact ⟨a.other hp Y Fx M (fun y hy=>hR y (by rw [ziE (.inl e)];exact hy)) (fun e2=>by omega),b,c⟩
 .obtain ⟨a,b,c⟩:=K.p32 e;have C:=W.c32 e;exact ⟨a,b,c.mv Y.L Fx.mv hsub (.inl C.h) (fun h _=>C.v h) (fun e2=>by have:=C.k;omega)⟩
 .obtain ⟨a,b,c,d⟩:=K.p34 e;have C:=W.c34 e;have hno:=hnot x.Bin (by rw [zem (.inr e)];simp);exact ⟨a,b,c,d.mv Y.L Fx.mv hsub (.inr C.h) (fun _ e2=>by have:=C.k;omega) (fun _=>⟨C.x.1,C.x.2,by rw [c];exact hno⟩)⟩
 .obtain ⟨a,b,c⟩:=K.p37 e;obtain ⟨M,_,_⟩:=W.g (.inr e);exact ⟨a.other hp Y Fx M (fun y hy=>hR y (by rw [ziE (.inr e)];exact hy)) (fun e2=>by omega),b,c⟩
 .unfold yn;congr 1;by_cases e3:x.PC=33
  .rw [zta e3,zta e3];have hb:=W.b33 e3;have hno:=hnot x.Bin (by rw [zem (.inl e3)];simp);unfold yT;rw [Fx.bn x.Bin hb.1 hno]
  .unfold zcf;rw [zc e3,zc e3]
def zhk (p:zd) (nb k:Nat) (R:List Int) (gh:Gh) (s:za) (x:ze) (s':za) (x':ze):Prop :=
 ∃gh',SX p nb s' gh' (u7 x'++R) (k+1)/\MX p s' gh' x'/\FX p nb (u7 x) (fun _=>False) s s' gh gh' /\
  ∃N B,List.Perm (yL p s' gh'++yn s' x'++B) (N++(yL p s gh++yn s x)) /\
   ((N=[]/\B=[]/\s'.T=s.T)\/(N=[x.G.Obj]/\B=[]/\(x.PC=3\/x.PC=37)/\¬(s.T.Marks|||bit x.G.Obj=s.T.Marks)/\s'.T={s.T with Marks:=s.T.Marks|||bit x.G.Obj})\/(N=[]/\B=[x.Obj]/\x.PC=38/\s'.T=xj s.T x.Obj) \/
    (N=[]/\B=[]/\x.PC=30/\ZB s.H s.P.Most=true/\s'.H=yP s.H/\s'.T=Y0 s.T (wc (s.H.Objs.length+1))))
theorem zhk.quiet {p:zd}{nb k:Nat}{R:List Int}{gh:Gh}{s s':za}{x x':ze}(X:SX p nb s gh (u7 x++R) k) (S':SOk p nb s') (hm:s'.M=s.M) (hb:s'.Bins=s.Bins) (hT:s'.T=s.T)
  (ho:u7 x'=u7 x) (hh:List.Perm (yn s' x') (yn s x)) (W':MX p s' gh x'):zhk p nb k R gh s x s' x' :=
 ⟨gh,by rw [ho];exact X.quiet S' hm,W',FX.quiet hm (fun _ _ _=>by rw [hb]),[],[],by rw [ZK hb,zKI];exact zKR _ hh,.inl ⟨rfl,rfl,hT⟩⟩
theorem zhk.calm {p:zd}{nb k:Nat}{R:List Int}{gh:Gh}{s s':za}{x x':ze}(X:SX p nb s gh (u7 x++R) k) (S':SOk p nb s') (hm:s'.M=s.M) (hb:s'.Bins=s.Bins) (hT:s'.T=s.T)
  (h:x.PC≠3/\x.PC≠33/\x.PC≠34/\x.PC≠36/\x.PC≠37/\x.PC≠38) (h':x'.PC≠3/\x'.PC≠32/\x'.PC≠33/\x'.PC≠34/\x'.PC≠36/\x'.PC≠37/\x'.PC≠38) (eb:x'.Batch=x.Batch)
  (bt:x'.PC<=33->x'.Batch=[]) (bf:∀v∈x'.Buf,1<=v/\v<=64) (ol:(x'.PC=21->0<=x'.Old/\x'.Old<=64)/\(x'.PC=22\/((x'.PC=1\/x'.PC=3)/\x'.Ret=22)->1<=x'.Old/\x'.Old<=64)):zhk p nb k R gh s x s' x':=by
 refine .quiet X S' hm hb hT ?_ ?_ (MX.plain (by omega) bt bf ol)
 .rw [ux (by omega),ux (by omega)]
 .unfold yn;rw [Zo (by omega),Zo (by omega),eb]
theorem zv0 {p:zd}{s:za}{gh:Gh}{md o w:Int}(hmd:md=2\/md=3) (ho:1<=o/\o<=64):GX p s gh (YG md o w)/\(YG md o w).Mode=md/\(YG md o w).Out=0/\wT (YG md o w)=[]/\yE (YG md o w)=[]:=by
 refine ⟨GX.plain (.inl rfl) ⟨by show (0:Int)<=0;decide,by show (0:Int)<=7;decide⟩ ⟨by show 1<=md;omega,by show md<=3;omega⟩ ho (fun e=>by have e:md=1:=e;omega) (.inr ⟨by show (0:Int)≠3;decide,by show (0:Int)≠5;decide,by show (0:Int)≠7;decide⟩),rfl,rfl,
  v9 (.inr ⟨by show (0:Int)≠6;decide,by show (0:Int)≠7;decide⟩),Ya (.inr (.inl (by show (0:Int)<3;decide)))⟩
theorem zJV {p:zd}(hp:zI p) {nb k:Nat}{R:List Int}{gh:Gh}{s:za}{m:Int}{x:ze}(hk:k<4294960000) (X:SX p nb s gh (u7 x++R) k) (W:XOk p nb m x) (K:MX p s gh x) (hpl:((vO p m).length:Int)<=64)
  (hH:∀o i,0<=zW s.H o i/\zW s.H o i<=64):zhk p nb k R gh s x (zt s m x).1 (zt s m x).2:=by
 have S':=(zGj hp hpl X.S W).1;have hP:=X.S.P;have eC:zc4 s.P (zU s.P) x.Bin=zc4 p (zU p) x.Bin:=by rw [hP]
 have hbf:=K.bf;have hol:=K.ol;revert S';refine xZ (motive:=fun r=>SOk p nb r.1->zhk p nb k R gh s x r.1 r.2) s m x ?_ ?_ ?_ ?_ ?_ ?_ ?_ ?_ ?_ ?_ ?_ ?_ ?_ ?_ ?_ ?_ ?_ ?_ ?_ ?_
 .intro c;unfold mu0 zac;dsimp only;have hbt:=K.bt (by omega)
  repeat' split
  all_goals (intro S')
  all_goals (refine .calm X S' rfl rfl rfl (by omega) (by (try dsimp only [setM]);omega) rfl (fun _=>hbt) hbf ⟨fun e=>?_,fun e=>?_⟩<;>((try dsimp only [setM] at e);omega))
 .intro c;unfold mu1;dsimp only;have hbt:=K.bt (by omega);have hrt:=W.ret (.inl c);split
  .intro S';exact .calm X S' rfl rfl rfl (by omega) (by dsimp only;omega) rfl (fun _=>hbt) hbf ⟨fun e=>by dsimp only at e;omega,fun e=>by dsimp only at e ⊢;exact hol.2 (by omega)⟩
  .rename_i hl;intro S';have hv:1<=x.Buf.getD (x.Buf.length-1) 0/\x.Buf.getD (x.Buf.length-1) 0<=64:=by
    rw [zKH,zKG (show x.Buf.length-1<x.Buf.length by omega)];exact hbf _ (zK1 _)
   obtain ⟨g1,g2,g3,g4,g5⟩:=zv0 (p:=p) (s:=s) (gh:=gh) (w:=m) (.inl rfl) hv;refine .quiet X S' rfl rfl rfl ?_ ?_ ⟨fun _=>hbt,fun v hv=>hbf v (zMd hv),⟨fun e=>(by cases e),fun e=>?_⟩,fun _=>⟨g1,g2,g3⟩,fun e=>(by cases e),fun e=>(by cases e),fun e=>(by cases e)⟩
   .rw [ux (x:=x) (by omega),ziE (.inl rfl)];exact g4
   .unfold yn;rw [Zo (x:=x) (by omega),zrV rfl];show List.Perm (x.Batch++yE (YG 2 (x.Buf.getD (x.Buf.length-1) 0) m)) _;rw [g5]
   .rcases e with e | e
    .cases e
    .exact hol.2 (.inr ⟨.inl c,e.2⟩)
 .intro c S';unfold mu2 at S' ⊢;exact .calm X S' rfl rfl rfl (by omega) (by dsimp only;omega) rfl (fun _=>K.bt (by omega)) hbf ⟨fun e=>by dsimp only at e;omega,fun e=>by dsimp only at e;omega⟩
 .intro c;unfold mu3;dsimp only;have hbt:=K.bt (by omega);obtain ⟨G,gm,g0⟩:=K.p3 c;obtain ⟨M,h5o,hn1⟩:=W.g (.inl c);have eo:u7 x=wT x.G:=ziE (.inl c);have hh:yn s x=yE x.G:=by unfold yn;rw [zrV c,hbt,zKP]
  rw [eo] at X;obtain ⟨gh',X',G',Fx,hc',hFb,N,hN,hT⟩:=zEa hp hk X M h5o G;have so:=za8 s x.G;have Fx':FX p nb (u7 x) (fun _=>False) s (zG s x.G).1 gh gh':=by rw [eo];exact Fx.mono (fun v e=>by have:=e.1;omega)
  have hT':(N=[]/\([]:List Int)=[]/\(zG s x.G).1.T=s.T)\/(N=[x.G.Obj]/\([]:List Int)=[]/\(x.PC=3\/x.PC=37)/\¬(s.T.Marks|||bit x.G.Obj=s.T.Marks)/\(zG s x.G).1.T={s.T with Marks:=s.T.Marks|||bit x.G.Obj}):=by
   rcases hT with ⟨a,b⟩ | ⟨a,b,c'⟩
   .exact .inl ⟨a,rfl,b⟩
   .exact .inr ⟨a,rfl,.inl c,b,c'⟩
  split
  .rename_i o1;intro S';have n1:wT (zG s x.G).2=[]:=v9 (.inl (by omega));have n2:yE (zG s x.G).2=[]:=Ya (.inl (by omega));rw [n1] at X';refine ⟨gh',by rw [ux (by dsimp only;omega)];exact X',MX.plain (by dsimp only;omega) (fun _=>hbt) hbf ⟨fun e=>(by cases e),fun e=>?_⟩,Fx',N,[],?_,hT'.elim .inl (fun h=>.inr (.inl h))⟩
   .rcases e with e | e
    .cases e
    .exact hol.2 (.inr ⟨.inr c,e.2⟩)
   .unfold yn;rw [Zo (by dsimp only;omega),zKI,zKI];rw [n2,zKI] at hN;show List.Perm (yL p (zG s x.G).1 gh'++x.Batch) (N++(yL p s gh++(x.Batch++zcf s x)));rw [hbt,zrV c,zKI,zKP];exact hN
  .rename_i o1;intro S';have o0:(zG s x.G).2.Out=0:=by have:=G'.o;omega
   refine ⟨gh',by rw [ziE (x:={x with G:=(zG s x.G).2}) (.inl c)];exact X',⟨fun _=>hbt,hbf,hol,fun _=>⟨G',so.2.2.trans gm,o0⟩,fun e=>by have e:x.PC=32:=e;omega,fun e=>by have e:x.PC=34:=e;omega,fun e=>by have e:x.PC=37:=e;omega⟩,Fx',N,[],?_,hT'.elim .inl (fun h=>.inr (.inl h))⟩;unfold yn;rw [zrV (x:={x with G:=(zG s x.G).2}) c,zKI];show List.Perm (yL p (zG s x.G).1 gh'++(x.Batch++yE (zG s x.G).2)) (N++(yL p s gh++(x.Batch++zcf s x)));rw [hbt,zrV c,zKP,zKP];exact hN
 .intro c S';unfold zkb at S' ⊢;exact .calm X S' rfl rfl rfl (by omega) (by dsimp only [setM];omega) rfl (fun _=>K.bt (by omega)) hbf ⟨fun e=>by dsimp only [setM] at e;omega,fun e=>by dsimp only [setM] at e;omega⟩
 .intro c;unfold zfC;dsimp only;have hbt:=K.bt (by omega);split
  .intro S';exact .calm X S' rfl rfl rfl (by omega) (by dsimp only [v8];omega) rfl (fun _=>hbt) hbf ⟨fun e=>by dsimp only [v8] at e;omega,fun e=>by dsimp only [v8] at e;omega⟩
  .intro S';exact .calm X S' rfl rfl rfl (by omega) (by dsimp only;omega) rfl (fun _=>hbt) hbf ⟨fun _=>hH _ _,fun e=>by dsimp only at e;omega⟩
 .intro c;unfold zgk;dsimp only;have hbt:=K.bt (by omega);have h21:=hol.1 c;split
  .intro S';exact .calm X S' rfl rfl rfl (by omega) (by dsimp only;omega) rfl (fun _=>hbt) hbf ⟨fun e=>by dsimp only at e;omega,fun e=>by dsimp only at e;omega⟩
  .rename_i hn;intro S';have: ¬x.Old=0:=fun e=>hn (.inl e);exact .calm X S' rfl rfl rfl (by omega) (by dsimp only;omega) rfl (fun _=>hbt) hbf ⟨fun e=>by dsimp only at e;omega,fun e=>by dsimp only;omega⟩
 .intro c;unfold zfR;dsimp only;have hbt:=K.bt (by omega);have h22:=hol.2 (.inl c);split
  .intro S';exact .calm X S' rfl rfl rfl (by omega) (by dsimp only;omega) rfl (fun _=>hbt) hbf ⟨fun e=>by dsimp only at e;omega,fun e=>h22⟩
  .intro S';refine .calm X S' rfl rfl rfl (by omega) (by dsimp only;omega) rfl (fun _=>hbt) (fun v hv=>?_) ⟨fun e=>by dsimp only at e;omega,fun e=>by dsimp only at e;omega⟩;rcases zK4.1 hv with h | h
   .exact hbf v h
   .rw [zLr.1 h];exact h22
 .intro c S';unfold zhd at S' ⊢;exact .calm X S' rfl rfl rfl (by omega) (by dsimp only [v8];omega) rfl (fun _=>K.bt (by omega)) hbf ⟨fun e=>by dsimp only [v8] at e;omega,fun e=>by dsimp only [v8] at e;omega⟩
 .intro c;unfold UN;have hbt:=K.bt (by omega);split
  .split
   .rename_i h1 h2;intro S';refine ⟨gh,by rw [ux (by dsimp only [setM];omega)];rw [ux (x:=x) (by omega)] at X;exact X.quiet S' rfl,MX.plain (by dsimp only [setM];omega) (fun _=>hbt) hbf ⟨fun e=>by dsimp only [setM] at e;omega,fun e=>by dsimp only [setM] at e;omega⟩,FX.quiet rfl (fun _ _ _=>rfl),[],[],?_,.inr (.inr (.inr ⟨rfl,rfl,c,h2,rfl,rfl⟩))⟩;rw [ZK rfl,zKI,zKP];unfold yn;rw [Zo (by dsimp only [setM];omega),Zo (x:=x) (by omega)];exact zK8 _
   .intro S';exact .calm X S' rfl rfl rfl (by omega) (by dsimp only [v8];omega) rfl (fun _=>hbt) hbf ⟨fun e=>by dsimp only [v8] at e;omega,fun e=>by dsimp only [v8] at e;omega⟩
  .intro S';exact .calm X S' rfl rfl rfl (by omega) (by dsimp only;omega) rfl (fun _=>hbt) hbf ⟨fun e=>by dsimp only at e;omega,fun e=>by dsimp only at e;omega⟩
 .intro c;unfold zfT;dsimp only;have hbt:=K.bt (by omega);split
  .intro S';refine .quiet X S' rfl rfl rfl (by rw [ux (by dsimp only;omega),ux (x:=x) (by omega)]) ?_ ⟨fun _=>hbt,hbf,⟨fun e=>by dsimp only at e;omega,fun e=>by dsimp only at e;omega⟩,fun e=>by dsimp only at e;omega,fun _=>⟨rfl,⟨by show (0:Int)<=0;decide,by show (0:Int)<=2;decide⟩,by show CK p s.M (zDW s.P (yr s.P) x.Bin);rw [hP];exact CK.start⟩,fun e=>by dsimp only at e;omega,fun e=>by dsimp only at e;omega⟩;unfold yn;rw [Zo (by dsimp only;omega),Zo (x:=x) (by omega)]
  .intro S';exact .calm X S' rfl rfl rfl (by omega) (by dsimp only;omega) rfl (fun _=>hbt) hbf ⟨fun e=>by dsimp only at e;omega,fun e=>by dsimp only at e;omega⟩
 .intro c;unfold zfa;dsimp only;have C:=W.c32 c;obtain ⟨c1,c2,c3⟩:=K.p32 c;have hbt:=K.bt (by omega);have eo:u7 x=[]:=ux (by omega);have hh:yn s x=[]:=by unfold yn;rw [hbt,Zo (by omega)];rfl
  have nn:∀e:x.PC=21,False:=fun e=>by omega
  intro S';have S':SOk p nb {s with M:=(zC s.M x.C).1}:=S';rcases SX.popF hp X hk C.k C.h C.n c1 c2 c3 C.v S' with ⟨a,b,cc,d⟩ | ⟨y,l,a,b,cc,d,e⟩
  .rw [zc b];have hout:=zcW s.M c1 c2 (.inr C.k);by_cases o2:(zC s.M x.C).2.Out=2
   .rw [zb o2];exact .calm X S' a rfl rfl (by omega) (by dsimp only;omega) rfl (fun _=>hbt) hbf ⟨fun e=>by dsimp only at e;omega,fun e=>by dsimp only at e;omega⟩
   .rw [zc o2];have hpc':(zC s.M x.C).2.Out=0/\0<=(zC s.M x.C).2.PC/\(zC s.M x.C).2.PC<=2:=by omega
    refine .quiet X S' a rfl rfl ?_ ?_ ⟨fun _=>hbt,hbf,hol,fun e=>by have e:x.PC=3:=e;omega,fun _=>⟨hpc'.1,hpc'.2,?_⟩,fun e=>by have e:x.PC=34:=e;omega,fun e=>by have e:x.PC=37:=e;omega⟩
    .rw [eo];exact ux (by dsimp only;omega)
    .unfold yn;rw [Zo (by dsimp only;omega),Zo (x:=x) (by omega)]
    .rw [show ({s with M:=(zC s.M x.C).1}:za).M=s.M from a];exact cc
  .rw [zb b];have e1:u7 {x with PC:=33,Bin:=(zC s.M x.C).2.X,C:=(zC s.M x.C).2}=[y]:=by rw [<-cc];exact zem (x:={x with PC:=33,Bin:=(zC s.M x.C).2.X,C:=(zC s.M x.C).2}) (.inl rfl)
   refine ⟨{gh with F:=l},by rw [e1];rw [eo] at d;exact d,MX.plain (by dsimp only;omega) (fun _=>hbt) hbf ⟨fun e=>by dsimp only at e;omega,fun e=>by dsimp only at e;omega⟩,e _ _,[],[],?_,.inl ⟨rfl,rfl,rfl⟩⟩;rw [hh,zKI,zKI,zKP];unfold yn;rw [zta (x:={x with PC:=33,Bin:=(zC s.M x.C).2.X,C:=(zC s.M x.C).2}) rfl];show List.Perm (yL p s {gh with F:=l}++(x.Batch++yT s (zC s.M x.C).2.X)) _;rw [hbt,zKP,cc];have:yL p s gh=yT s y++yL p s {gh with F:=l}:=by unfold yL;rw [a];simp [zKM]
   rw [this];exact zLs
 .intro c;unfold zjX;dsimp only;intro S';have hb:=W.b33 c;have hbt:=K.bt (by omega);have eo:u7 x=[x.Bin]:=zem (.inl c);rw [eC] at *;have e1:u7 {x with Batch:=Ud s x.Bin,PC:=34,C:=zc4 p (zU p) x.Bin}=[x.Bin]:=zem (x:={x with Batch:=Ud s x.Bin,PC:=34,C:=zc4 p (zU p) x.Bin}) (.inr rfl);have hget:∀b,1<=b->b∉u7 x->(s.Bins.set x.Bin.toNat [])[b.toNat]? =s.Bins[b.toNat]? :=fun b b1 b2=>by
   rw [zLf];intro e;rw [eo] at b2;exact b2 (by rw [show b=x.Bin by omega];simp)
  refine ⟨gh,by rw [e1,<-eo];exact X.quiet S' rfl,⟨fun e=>zm e (by show ¬(34:Int)<=33;decide),hbf,⟨fun e=>by dsimp only at e;omega,fun e=>by dsimp only at e;omega⟩,fun e=>by dsimp only at e;omega,fun e=>by dsimp only at e;omega,fun _=>⟨rfl,⟨by show (0:Int)<=0;decide,by show (0:Int)<=2;decide⟩,rfl,CK.start⟩,fun e=>by dsimp only at e;omega⟩,FX.quiet rfl hget,[],[],?_,.inl ⟨rfl,rfl,rfl⟩⟩;have hbag:yL p {s with Bins:=s.Bins.set x.Bin.toNat []} gh=yL p s gh:=by
   unfold yL;congr 1;refine wi (fun b hb=>?_);have hm:=X.L.cF.mem b hb;have hno:=(X.L.notF (x:=x.Bin) (by rw [eo];simp)).1;unfold yT;rw [show ({s with Bins:=s.Bins.set x.Bin.toNat []}:za).Bins=s.Bins.set x.Bin.toNat [] from rfl,hget b hm.1 (by rw [eo];intro e;rw [zLr.1 e] at hb;exact hno hb)]
  rw [hbag,zKI,zKP];unfold yn;rw [zta c,Zo (x:={x with Batch:=Ud s x.Bin,PC:=34,C:=zc4 p (zU p) x.Bin}) (by dsimp only;omega)];show List.Perm (yL p s gh++(Ud s x.Bin++[])) _;rw [hbt,zKI,zKP,zBl]
 .intro c;unfold zgh;dsimp only;intro S';have S':SOk p nb {s with M:=(zC s.M x.C).1}:=S';have C:=W.c34 c;obtain ⟨c1,c2,c3,c4⟩:=K.p34 c;have eo:u7 x=[x.Bin]:=zem (.inr c);have hh:yn s x=x.Batch:=by unfold yn;rw [Zo (by omega),zKI]
  rw [eo] at X;rcases SX.pushE hp (o1:=[]) (o2:=R) (b:=x.Bin) X hk C.k C.h C.n c3 c1 c2 c4 C.v S' with ⟨a,b,cc,d⟩ | ⟨a,b,d⟩
  .rw [a,zc (by decide)];have hout:=zcW s.M c1 c2 (.inl C.k);have hsame:=zog s.M x.C;have hpc':0<=(zC s.M x.C).2.PC/\(zC s.M x.C).2.PC<=2:=by omega
   have e1:u7 {x with C:=(zC s.M x.C).2}=[x.Bin]:=zem (x:={x with C:=(zC s.M x.C).2}) (.inr c);refine ⟨gh,by rw [e1];exact b,⟨fun e=>by have e:x.PC<=33:=e;omega,hbf,hol,fun e=>by have e:x.PC=3:=e;omega,fun e=>by have e:x.PC=32:=e;omega,fun _=>⟨a,hpc',(hsame.2.2.2 C.k).trans c3,cc⟩,fun e=>by have e:x.PC=37:=e;omega⟩,by rw [eo];exact d _ _ (by simp),[],[],?_,.inl ⟨rfl,rfl,rfl⟩⟩;rw [ZK rfl,hh,zKI];unfold yn;rw [Zo (x:={x with C:=(zC s.M x.C).2}) (by dsimp only;omega),zKI];exact zK8 _
  .rw [a,zb rfl];refine ⟨{gh with E:=x.Bin::gh.E},by rw [ux (by dsimp only;omega)];exact b,MX.plain (by dsimp only;omega) (fun e=>zm e (by show ¬(35:Int)<=33;decide)) hbf ⟨fun e=>by dsimp only at e;omega,fun e=>by dsimp only at e;omega⟩,by rw [eo];exact d _ _,[],[],?_,.inl ⟨rfl,rfl,rfl⟩⟩;rw [hh,zKI];unfold yn;rw [Zo (by dsimp only;omega),zKI];exact zK8 _
 .intro c;unfold zgj;dsimp only;split
  .rename_i hb;intro S';exact .calm X S' rfl rfl rfl (by omega) (by dsimp only;omega) rfl (fun _=>hb) hbf ⟨fun e=>by dsimp only at e;omega,fun e=>by dsimp only at e;omega⟩
  .rename_i o l hb;intro S';refine .quiet X S' rfl rfl rfl (by rw [ux (by dsimp only;omega),ux (x:=x) (by omega)]) ?_ (MX.plain (by dsimp only;omega) (fun e=>zm e (by show ¬(36:Int)<=33;decide)) hbf ⟨fun e=>by dsimp only at e;omega,fun e=>by dsimp only at e;omega⟩);unfold yn;rw [zad (.inl rfl),Zo (x:=x) (by omega),hb,zKI];exact zLs
 .intro c;unfold zfM;dsimp only;have hv:=hH x.Obj x.Slot;have eo:u7 x=[]:=ux (by omega);split
  .rcases zdI s (wc (x.Slot+1)) with e | e<;>rw [e]<;>intro S'
   .refine .quiet X S' rfl rfl rfl (by rw [eo,ux (by dsimp only;omega)]) ?_ (MX.plain (by dsimp only;omega) (fun e=>zm e (by show ¬(36:Int)<=33;decide)) hbf ⟨fun e=>by dsimp only at e;omega,fun e=>by dsimp only at e;omega⟩);unfold yn;rw [zad (.inl c),zad (.inl rfl)]
   .refine .quiet X S' rfl rfl rfl (by rw [eo,ux (by dsimp only;omega)]) ?_ (MX.plain (by dsimp only;omega) (fun e=>zm e (by show ¬(38:Int)<=33;decide)) hbf ⟨fun e=>by dsimp only at e;omega,fun e=>by dsimp only at e;omega⟩);unfold yn;rw [zad (.inl c),zad (.inr rfl)]
  .rename_i hne;intro S';obtain ⟨g1,g2,g3,g4,g5⟩:=zv0 (p:=p) (s:=s) (gh:=gh) (w:=m) (.inr rfl) (show 1<=zW s.H x.Obj x.Slot/\zW s.H x.Obj x.Slot<=64 by omega);refine .quiet X S' rfl rfl rfl ?_ ?_ ⟨fun e=>zm e (by show ¬(37:Int)<=33;decide),hbf,⟨fun e=>by dsimp only at e;omega,fun e=>by dsimp only at e;omega⟩,fun e=>by dsimp only at e;omega,fun e=>by dsimp only at e;omega,fun e=>by dsimp only at e;omega,fun _=>⟨g1,g2,g3⟩⟩
   .rw [eo,ziE (.inr rfl)];exact g4
   .unfold yn;rw [zad (.inl c),zs1 rfl];show List.Perm (x.Batch++x.Obj::yE (YG 3 (zW s.H x.Obj x.Slot) m)) _;rw [g5]
 .intro c;unfold za5;dsimp only;obtain ⟨G,gm,g0⟩:=K.p37 c;obtain ⟨M,h5o,hn1⟩:=W.g (.inr c);have eo:u7 x=wT x.G:=ziE (.inr c);have hh:yn s x=x.Batch++x.Obj::yE x.G:=by unfold yn;rw [zs1 c]
  rw [eo] at X;obtain ⟨gh',X',G',Fx,hc',hFb,N,hN,hT⟩:=zEa hp hk X M h5o G;have so:=za8 s x.G;have Fx':FX p nb (u7 x) (fun _=>False) s (zG s x.G).1 gh gh':=by rw [eo];exact Fx.mono (fun v e=>by have:=e.1;omega)
  have hT':(N=[]/\([]:List Int)=[]/\(zG s x.G).1.T=s.T)\/(N=[x.G.Obj]/\([]:List Int)=[]/\(x.PC=3\/x.PC=37)/\¬(s.T.Marks|||bit x.G.Obj=s.T.Marks)/\(zG s x.G).1.T={s.T with Marks:=s.T.Marks|||bit x.G.Obj}):=by
   rcases hT with ⟨a,b⟩ | ⟨a,b,c'⟩
   .exact .inl ⟨a,rfl,b⟩
   .exact .inr ⟨a,rfl,.inr c,b,c'⟩
  have perm:∀H':List Int,H'=x.Batch++x.Obj::yE (zG s x.G).2->List.Perm (yL p (zG s x.G).1 gh'++H'++[]) (N++(yL p s gh++yn s x)):=by
   intro H' e;rw [e,hh,zKI];have a1:List.Perm (yL p (zG s x.G).1 gh'++(x.Batch++x.Obj::yE (zG s x.G).2)) ((x.Batch++[x.Obj])++(yL p (zG s x.G).1 gh'++yE (zG s x.G).2)):=by
    rw [show x.Batch++x.Obj::yE (zG s x.G).2=(x.Batch++[x.Obj])++yE (zG s x.G).2 by simp];exact zK9 _ _ _
   have a2:List.Perm (N++(yL p s gh++(x.Batch++x.Obj::yE x.G))) ((x.Batch++[x.Obj])++(N++(yL p s gh++yE x.G))):=by
    rw [show x.Batch++x.Obj::yE x.G=(x.Batch++[x.Obj])++yE x.G by simp];exact (zKR N (zK9 _ _ _)).trans (zK9 _ _ _)
   exact a1.trans ((zKR _ hN).trans a2.symm)
  split
  .rename_i o1;intro S';have n1:wT (zG s x.G).2=[]:=v9 (.inl (by omega));have n2:yE (zG s x.G).2=[]:=Ya (.inl (by omega));rw [n1] at X';rcases zdI s x.Slot with e | e<;>rw [e]
   .refine ⟨gh',by rw [ux (by dsimp only;omega)];exact X',MX.plain (by dsimp only;omega) (fun e=>zm e (by show ¬(36:Int)<=33;decide)) hbf ⟨fun e=>by dsimp only at e;omega,fun e=>by dsimp only at e;omega⟩,Fx',N,[],perm _ ?_,hT'.elim .inl (fun h=>.inr (.inl h))⟩;unfold yn;rw [zad (.inl rfl),n2]
   .refine ⟨gh',by rw [ux (by dsimp only;omega)];exact X',MX.plain (by dsimp only;omega) (fun e=>zm e (by show ¬(38:Int)<=33;decide)) hbf ⟨fun e=>by dsimp only at e;omega,fun e=>by dsimp only at e;omega⟩,Fx',N,[],perm _ ?_,hT'.elim .inl (fun h=>.inr (.inl h))⟩;unfold yn;rw [zad (.inr rfl),n2]
  .rename_i o1;intro S';have o0:(zG s x.G).2.Out=0:=by have:=G'.o;omega
   refine ⟨gh',by rw [ziE (x:={x with G:=(zG s x.G).2}) (.inr c)];exact X',⟨fun e=>by have e:x.PC<=33:=e;omega,hbf,hol,fun e=>by have e:x.PC=3:=e;omega,fun e=>by have e:x.PC=32:=e;omega,fun e=>by have e:x.PC=34:=e;omega,fun _=>⟨G',so.2.2.trans gm,o0⟩⟩,Fx',N,[],perm _ ?_,hT'.elim .inl (fun h=>.inr (.inl h))⟩;unfold yn;rw [zs1 (x:={x with G:=(zG s x.G).2}) c]
 .intro c S';unfold zg4 at S' ⊢;have eo:u7 x=[]:=ux (by omega);refine ⟨gh,by rw [ux (by dsimp only;omega)];rw [eo] at X;exact X.quiet S' rfl,MX.plain (by dsimp only;omega) (fun e=>zm e (by show ¬(39:Int)<=33;decide)) hbf ⟨fun e=>by dsimp only at e;omega,fun e=>by dsimp only at e;omega⟩,FX.quiet rfl (fun _ _ _=>rfl),[],[x.Obj],?_,.inr (.inr (.inl ⟨rfl,rfl,c,rfl⟩))⟩;rw [ZK rfl,zKP];unfold yn;rw [zad (.inr c),Zo (by dsimp only;omega),zKI,zKM];exact zK8 _
 .intro c S';unfold zme at S' ⊢;exact .calm X S' rfl rfl rfl (by omega) (by dsimp only;omega) rfl (fun e=>zm e (by show ¬(35:Int)<=33;decide)) hbf ⟨fun e=>by dsimp only at e;omega,fun e=>by dsimp only at e;omega⟩
 .intro S';exact ⟨gh,X.quiet S' rfl,K,FX.quiet rfl (fun _ _ _=>rfl),[],[],by rw [zKI];exact zK8 _,.inl ⟨rfl,rfl,rfl⟩⟩
theorem xq (a b:BitVec 64) (q:Int):zP (a|||b) q=true↔zP a q=true\/zP b q=true:=by
 rw [xL,xL,xL,BitVec.getLsbD_or,zLO];constructor
 .rintro ⟨h1,h2,h | h⟩
  .exact .inl ⟨h1,h2,h⟩
  .exact .inr ⟨h1,h2,h⟩
 .rintro (⟨h1,h2,h⟩ | ⟨h1,h2,h⟩)
  .exact ⟨h1,h2,.inl h⟩
  .exact ⟨h1,h2,.inr h⟩
theorem VV (h:zr) (a i v:Int):(xM h a i v).Objs.length=h.Objs.length:=by
 unfold xM;split<;>simp
theorem ZN (h:zr):(yP h).Objs.length=h.Objs.length+1:=by unfold yP;simp
theorem zvL:∀(n:Fin 10) (j:Fin 64),(xK (n.1:Int)).getLsbD j.1=decide (j.1<n.1):=by decide +kernel
theorem Yv {n:Nat}(hn:n<=9) (o:Int):zP (xK (n:Int)) o=true↔1<=o/\o<=(n:Int):=by
 rw [xL];constructor
 .rintro ⟨a,b,c⟩;have:=zvL ⟨n,by omega⟩ ⟨(o-1).toNat,by omega⟩;rw [this] at c;have:(o-1).toNat<n:=by simpa using c
  omega
 .rintro ⟨a,b⟩;have:=zvL ⟨n,by omega⟩ ⟨(o-1).toNat,by omega⟩;refine ⟨a,by omega,?_⟩;rw [this];exact zw (by show (o-1).toNat<n;omega)
theorem zyC {t:zn}{o:Int}(ho:1<=o/\o<=64) (hm: ¬zP t.Marks o=true) (hb: ¬zP t.Black o=true):shade t o=({t with Marks:=t.Marks|||bit o},true):=by
 unfold shade;rw [zc ((uJ ho).2 hm),zb];unfold zP at hb;simpa using hb
theorem zBv {o q:Int}(h:zP (bit o) q=true):q=o:=by
 by_cases ho:1<=o/\o<=64
 .have:=(yO 0#64 ho q).1 (by simpa using h);exact this.resolve_left (Yj q)
 .unfold bit at h;rw [zc ho] at h;exact zm h (Yj q)
theorem YB {m:BitVec 64}{o q:Int}(h:zP (m|||bit o) q=true):zP m q=true\/q=o:=((xq _ _ _).1 h).imp id zBv
theorem zsV (t:zn) (o:Int):yp t o=2↔zP t.Marks o=true/\zP t.Black o=true:=by
 unfold yp;cases h:zP (t.Marks&&&t.Black) o with
 | true=>simp only [if_true,true_iff];exact (vr _ _ o).1 h
 | false =>
  have hn: ¬(zP t.Marks o=true/\zP t.Black o=true):=fun e=>by rw [(vr _ _ o).2 e] at h;cases h
  simp only [zLi,if_false];constructor
  .intro e;split at e<;>omega
  .intro e;exact zm e hn
theorem ziB (t:zn) (o:Int):(shade t o).1.Black=t.Black/\((shade t o).1.Marks=t.Marks\/(shade t o).1.Marks=t.Marks|||bit o):=by
 unfold shade;split
 .exact ⟨rfl,.inl rfl⟩
 split
 .exact ⟨rfl,.inr rfl⟩
 .exact ⟨rfl,.inl rfl⟩
theorem zai (t:zn) (o:Int):(xj t o).Marks=t.Marks/\((xj t o).Black=t.Black\/((xj t o).Black=t.Black|||bit o/\zP t.Marks o=true)):=by
 unfold xj;split
 .rename_i h;exact ⟨rfl,.inr ⟨rfl,((w8 t o).1 h).1⟩⟩
 .exact ⟨rfl,.inl rfl⟩
theorem zGe (s:za) (g:zJ):(zG s g).1.T=s.T\/(zG s g).1.T=(shade s.T g.Obj).1:=by
 unfold zG;split
 .exact .inl rfl
 split
 .exact .inl rfl
 split
 .exact .inl rfl
 split
 .exact .inl rfl
 split
 .exact .inl rfl
 split
 .exact .inl rfl
 split
 .exact .inl rfl
 split
 .exact .inr rfl
 .exact .inl rfl
theorem zl5 (s:za) (m:Int) (x:ze) :
  ((zt s m x).1.H.Objs.length=s.H.Objs.length/\((zt s m x).1.T=s.T\/((zt s m x).1.T=(shade s.T x.G.Obj).1/\(x.PC=3\/x.PC=37))\/(zt s m x).1.T=xj s.T x.Obj) /\
   ((zt s m x).1.L=s.L\/(∃w,(zt s m x).1.L=(U3 s.L m w).1)\/(zt s m x).1.L=Ui s.L m)) \/
  ((zt s m x).1.H=yP s.H/\(zt s m x).1.T=Y0 s.T (wc (s.H.Objs.length+1))/\(zt s m x).1.L=V1 s.L m s.P.Price/\zcC s.L m s.P.Price s.P.Limit=true/\ZB s.H s.P.Most=true):=by
 refine xZ (motive:=fun r=>(r.1.H.Objs.length=s.H.Objs.length/\(r.1.T=s.T\/(r.1.T=(shade s.T x.G.Obj).1/\(x.PC=3\/x.PC=37))\/r.1.T=xj s.T x.Obj)/\(r.1.L=s.L\/(∃w,r.1.L=(U3 s.L m w).1)\/r.1.L=Ui s.L m)) \/
  (r.1.H=yP s.H/\r.1.T=Y0 s.T (wc (s.H.Objs.length+1))/\r.1.L=V1 s.L m s.P.Price/\zcC s.L m s.P.Price s.P.Limit=true/\ZB s.H s.P.Most=true)) s m x ?_ ?_ ?_ ?_ ?_ ?_ ?_ ?_ ?_ ?_ ?_ ?_ ?_ ?_ ?_ ?_ ?_ ?_ ?_ ?_
 .intro c;exact .inl ⟨rfl,.inl rfl,.inl rfl⟩
 .intro c;exact .inl ⟨rfl,.inl rfl,.inl rfl⟩
 .intro c;exact .inl ⟨rfl,.inl rfl,.inl rfl⟩
 .intro c;unfold mu3;refine .inl ⟨by rw [uf],(zGe s x.G).imp id (fun h=>.inl ⟨h,.inl c⟩),.inl (by rw [uf])⟩
 .intro c;exact .inl ⟨rfl,.inl rfl,.inl rfl⟩
 .intro c;exact .inl ⟨rfl,.inl rfl,.inl rfl⟩
 .intro c;exact .inl ⟨rfl,.inl rfl,.inl rfl⟩
 .intro c;exact .inl ⟨rfl,.inl rfl,.inl rfl⟩
 .intro c;exact .inl ⟨VV _ _ _ _,.inl rfl,.inl rfl⟩
 .intro c;unfold UN;split
  .split
   .rename_i h1 h2;exact .inr ⟨rfl,rfl,rfl,h1,h2⟩
   .exact .inl ⟨rfl,.inl rfl,.inl rfl⟩
  .exact .inl ⟨rfl,.inl rfl,.inl rfl⟩
 .intro c;exact .inl ⟨rfl,.inl rfl,.inr (.inl ⟨_,rfl⟩)⟩
 .intro c;exact .inl ⟨rfl,.inl rfl,.inl rfl⟩
 .intro c;exact .inl ⟨rfl,.inl rfl,.inl rfl⟩
 .intro c;exact .inl ⟨rfl,.inl rfl,.inl rfl⟩
 .intro c;exact .inl ⟨rfl,.inl rfl,.inl rfl⟩
 .intro c;exact .inl ⟨rfl,.inl rfl,.inl rfl⟩
 .intro c;unfold za5;refine .inl ⟨by rw [uf],(zGe s x.G).imp id (fun h=>.inl ⟨h,.inr c⟩),.inl (by rw [uf])⟩
 .intro c;exact .inl ⟨rfl,.inr (.inr rfl),.inr (.inr rfl)⟩
 .intro c;exact .inl ⟨rfl,.inl rfl,.inl rfl⟩
 .exact .inl ⟨rfl,.inl rfl,.inl rfl⟩
def zfG (n:Int) (x:ze):Prop:=(∀v∈x.Buf,v<=n)/\x.Old<=n/\(x.PC=3\/x.PC=37->x.G.Obj<=n)
theorem zB9 {h:zr}{n:Int}(h0:0<=n) (hv:∀l∈h.Objs,∀v∈l,v<=n) (o i:Int):zW h o i<=n:=by
 unfold zW;split
 .rw [zKH];cases hx:(zR h o)[i.toNat]? with
  | none=>exact h0
  | some v =>
   have hm:=zKK hx;unfold zR at hm;rw [zKH] at hm;cases hy:h.Objs[(o-1).toNat]? with
   | none=>rw [hy] at hm;cases hm
   | some l=>rw [hy] at hm;exact hv l (zKK hy) v hm
 .exact h0
def zsr (Q:Int->Prop) (x:ze):Prop:=(∀v∈x.Buf,Q v)/\Q x.Old/\(x.PC=3\/x.PC=37->Q x.G.Obj)
theorem zBD {p:zd}{nb:Nat}{s:za}{m:Int}{x:ze}(X:XOk p nb m x) {Q:Int->Prop}(h0:Q 0) (hg:∀r i,Q (zW s.H (wX x r) i)) (hg2:x.PC=36->Q (zW s.H x.Obj x.Slot)) (B:zsr Q x):zsr Q (zt s m x).2:=by
 obtain ⟨b1,b2,b3⟩:=B;have no:∀ {y:ze},(∀v∈y.Buf,Q v)->Q y.Old->¬(y.PC=3\/y.PC=37)->zsr Q y:=fun h1 h2 h3=>⟨h1,h2,fun e=>zm e h3⟩
 refine xZ (motive:=fun r=>zsr Q r.2) s m x ?_ ?_ ?_ ?_ ?_ ?_ ?_ ?_ ?_ ?_ ?_ ?_ ?_ ?_ ?_ ?_ ?_ ?_ ?_ ?_
 .intro c;unfold mu0 zac
  repeat' split
  all_goals exact no b1 b2 (by dsimp only [setM];omega)
 .intro c;unfold mu1;dsimp only;split
  .exact no b1 b2 (by have:=X.ret (.inl c);show ¬(x.Ret=3\/x.Ret=37);omega)
  .rename_i hl;refine ⟨fun v hv=>b1 v (zMd hv),b2,fun _=>?_⟩;show Q (x.Buf.getD (x.Buf.length-1) 0);rw [zKH,zKG (show x.Buf.length-1<x.Buf.length by omega)];exact b1 _ (zK1 _)
 .intro c;unfold mu2;exact no b1 b2 (by show ¬((0:Int)=3\/(0:Int)=37);decide)
 .intro c;unfold mu3;dsimp only;split
  .exact no b1 b2 (by show ¬((1:Int)=3\/(1:Int)=37);decide)
  .exact ⟨b1,b2,fun _=>by show Q (zG s x.G).2.Obj;rw [(za8 s x.G).1];exact b3 (.inl c)⟩
 .intro c;unfold zkb;exact no b1 b2 (by show ¬((0:Int)=3\/(0:Int)=37);decide)
 .intro c;unfold zfC;dsimp only;split
  .exact no b1 b2 (by show ¬((0:Int)=3\/(0:Int)=37);decide)
  .exact no b1 (hg _ _) (by show ¬((21:Int)=3\/(21:Int)=37);decide)
 .intro c;unfold zgk;dsimp only;split
  .exact no b1 h0 (by show ¬((23:Int)=3\/(23:Int)=37);decide)
  .exact no b1 b2 (by show ¬((22:Int)=3\/(22:Int)=37);decide)
 .intro c;unfold zfR;dsimp only;split
  .exact no b1 b2 (by show ¬((1:Int)=3\/(1:Int)=37);decide)
  .refine no (fun v hv=>?_) h0 (by show ¬((23:Int)=3\/(23:Int)=37);decide);rcases zK4.1 hv with h | h
   .exact b1 v h
   .rw [zLr.1 h];exact b2
 .intro c;unfold zhd;exact no b1 b2 (by show ¬((0:Int)=3\/(0:Int)=37);decide)
 .intro c;unfold UN;split
  .split
   .exact no b1 b2 (by show ¬((0:Int)=3\/(0:Int)=37);decide)
   .exact no b1 b2 (by show ¬((0:Int)=3\/(0:Int)=37);decide)
  .exact no b1 b2 (by show ¬((31:Int)=3\/(31:Int)=37);decide)
 .intro c;unfold zfT;dsimp only;split
  .exact no b1 b2 (by show ¬((32:Int)=3\/(32:Int)=37);decide)
  .exact no b1 b2 (by show ¬((0:Int)=3\/(0:Int)=37);decide)
 .intro c;unfold zfa;dsimp only;split
  .exact no b1 b2 (by show ¬((33:Int)=3\/(33:Int)=37);decide)
  split
  .exact no b1 b2 (by show ¬((0:Int)=3\/(0:Int)=37);decide)
  .exact no b1 b2 (by show ¬(x.PC=3\/x.PC=37);omega)
 .intro c;unfold zjX;exact no b1 b2 (by show ¬((34:Int)=3\/(34:Int)=37);decide)
 .intro c;unfold zgh;dsimp only;split
  .exact no b1 b2 (by show ¬((35:Int)=3\/(35:Int)=37);decide)
  .exact no b1 b2 (by show ¬(x.PC=3\/x.PC=37);omega)
 .intro c;unfold zgj;dsimp only;split
  .exact no b1 b2 (by show ¬((0:Int)=3\/(0:Int)=37);decide)
  .exact no b1 b2 (by show ¬((36:Int)=3\/(36:Int)=37);decide)
 .intro c;unfold zfM;dsimp only;split
  .exact no b1 b2 (by have:=zdI s (wc (x.Slot+1));show ¬(onM s (wc (x.Slot+1))=3\/onM s (wc (x.Slot+1))=37);omega)
  .exact ⟨b1,b2,fun _=>hg2 c⟩
 .intro c;unfold za5;dsimp only;split
  .exact no b1 b2 (by have:=zdI s x.Slot;show ¬(onM s x.Slot=3\/onM s x.Slot=37);omega)
  .exact ⟨b1,b2,fun _=>by show Q (zG s x.G).2.Obj;rw [(za8 s x.G).1];exact b3 (.inr c)⟩
 .intro c;unfold zg4;exact no b1 b2 (by show ¬((39:Int)=3\/(39:Int)=37);decide)
 .intro c;unfold zme;exact no b1 b2 (by show ¬((35:Int)=3\/(35:Int)=37);decide)
 .exact ⟨b1,b2,b3⟩
theorem zyU {p:zd}{nb:Nat}{s:za}{m:Int}{x:ze}(X:XOk p nb m x) {n:Int}(h0:0<=n) (hv:∀l∈s.H.Objs,∀v∈l,v<=n) (B:zfG n x):zfG n (zt s m x).2 :=
 zBD (Q:=fun v=>v<=n) X h0 (fun _ _=>zB9 h0 hv _ _) (fun _=>zB9 h0 hv _ _) B
theorem zhE:∀(l:List Int) (i:Nat) (v:Int),i<l.length->(l.set i v).sum=l.sum-l.getD i 0+v
 | [],i,v,h=>by simp at h
 | a::l,0,v,h=>by simp only [List.set_cons_zero,zLE,List.getD_cons_zero];omega
 | a::l,i+1,v,h=>by
  simp only [List.set_cons_succ,zLE,List.getD_cons_succ,zhE l i v (by simpa using h)];omega
structure LdI (p:zd) (k d:Int) (l:zx):Prop where
 pool:l.Pool=0
 sc:0<=l.Scanned/\l.Scanned<=k
 sp:l.Spent=p.Price*d
 bal:∀b∈l.Bal,-p.Limit<=b/\b<=k
 sum:l.Bal.sum=l.Scanned-l.Spent
theorem LdI.more {p:zd}{k d:Int}{l:zx}(I:LdI p k d l):LdI p (k+1) d l :=
 ⟨I.pool,by have:=I.sc;omega,I.sp,fun b hb=>by have:=I.bal b hb;omega,I.sum⟩
theorem zFX {l:List Int}{i:Nat}(h:i<l.length):l.getD i 0∈l:=by
 rw [zKH,zKG h];exact zK1 h
theorem LdI.take {p:zd}{k d:Int}{l:zx}(I:LdI p k d l) (m w:Int):(U3 l m w).1=l:=by
 unfold U3 zgM;rw [zc];rintro ⟨_,h⟩;rw [I.pool] at h;split at h<;>omega
theorem LdI.earn {p:zd}(hp:zI p) {k d:Int}(hk:0<=k/\k<=1000) {l:zx}(I:LdI p k d l) {m:Int}(hm:1<=m/\m<=(l.Bal.length:Int)):LdI p (k+1) d (Ui l m):=by
 have hsc:=I.sc;have hl:=hp.limit;have hb:=I.bal _ (zFX (l:=l.Bal) (i:=(m-1).toNat) (by omega));unfold Ui;rw [zb hm];have w1:wc (l.Scanned+1)=l.Scanned+1:=yQ;have w2:wc (l.Bal.getD (m-1).toNat 0+1)=l.Bal.getD (m-1).toNat 0+1:=yQ;rw [w1,w2];refine ⟨I.pool,by dsimp only;omega,I.sp,fun b hb'=>?_,?_⟩
 .rcases zLo hb' with h | rfl
  .have:=I.bal b h;omega
  .omega
 .dsimp only;rw [zhE _ _ _ (by omega),I.sum];omega
theorem zss {a d:Int}(h:0<=a/\a<=3):a*(d+1)=a*d+a:=by rw [Int.mul_add,Int.mul_one]
theorem zBm {a d:Int}(h:0<=a/\a<=3) (hd:0<=d/\d<=10):0<=a*d/\a*d<=30:=by
 refine ⟨Int.mul_nonneg h.1 hd.1,?_⟩;have:=Int.mul_le_mul h.2 hd.2 hd.1 (by decide:(0:Int)<=3);omega
theorem LdI.spend {p:zd}(hp:zI p) {k d:Int}(hk:0<=k/\k<=1000) (hd:0<=d/\d<=9) {l:zx}(I:LdI p k d l) {m:Int}(h:zcC l m p.Price p.Limit=true):LdI p (k+1) (d+1) (V1 l m p.Price):=by
 have hsc:=I.sc;have hl:=hp.limit;have hpr:=hp.price;have hsp:=zBm hpr (d:=d) (by omega);have e1:=I.sp;unfold zcC zar V7 at h;simp only [zKF,decide_eq_true_eq] at h;obtain ⟨⟨⟨⟨⟨⟨m1,m2⟩,_⟩,_⟩,_⟩,_⟩,h⟩:=h;have hb:=I.bal _ (zFX (l:=l.Bal) (i:=(m-1).toNat) (by omega));unfold UT at h;rw [yQ,yQ] at h;unfold V1 UT;rw [yQ,yQ];refine ⟨I.pool,by dsimp only;omega,?_,fun b hb'=>?_,?_⟩
 .dsimp only;rw [zss hpr];omega
 .rcases zLo hb' with h2 | rfl
  .have:=I.bal b h2;omega
  .omega
 .dsimp only;rw [zhE _ _ _ (by omega),I.sum];omega
structure NwI (p:zd) (k:Int) (s:za):Prop where
 mrk:∀o,zP s.T.Marks o=true->o<=(s.H.Objs.length:Int)
 bm:∀o,zP s.T.Black o=true->zP s.T.Marks o=true
 bk:∀o,(p.H.Objs.length:Int)<o->o<=(s.H.Objs.length:Int)->yp s.T o=2
 buf:∀x∈s.Ms,zfG (s.H.Objs.length:Int) x
 bl:s.L.Bal.length=s.Ms.length
 L:LdI p k ((s.H.Objs.length:Int)-(p.H.Objs.length:Int)) s.L
theorem zHO (l:zx) (m:Int):(Ui l m).Bal.length=l.Bal.length:=by unfold Ui;split<;>simp
theorem NwI.step {p:zd}{nb:Nat}(hp:zI p) {k:Int}(hk:0<=k/\k<=1000) {s:za}(E:EOk p nb s) (I:NwI p k s) (m:Int):NwI p (k+1) (zO s m):=by
 have hN:=E.H.n;have hM:=hp.most;have hn6:=hp.n;unfold zO;split
 .exact ⟨I.mrk,I.bm,I.bk,I.buf,I.bl,I.L.more⟩
 rename_i hne;cases hx:s.Ms[(m-1).toNat]? with
 | none=>exact ⟨I.mrk,I.bm,I.bk,I.buf,I.bl,I.L.more⟩
 | some x =>
  have hm:1<=m/\m<=(s.Ms.length:Int):=by omega
  have X:=E.X _ x hx;have B:=I.buf x (zKK hx);have em:(((m-1).toNat:Nat):Int)+1=m:=by omega
  rw [em] at X;have B':=zyU (s:=s) X (n:=(s.H.Objs.length:Int)) (by omega) (fun l hl v hv=>((E.H.objs l hl).2 v hv).2) B;have bufs:∀N':Int,(s.H.Objs.length:Int)<=N'->∀y∈s.Ms.set (m-1).toNat (zt s m x).2,zfG N' y:=fun N' hN' y hy=>by
   have up:∀ {z:ze},zfG (s.H.Objs.length:Int) z->zfG N' z:=fun ⟨a,b,c⟩=>⟨fun v hv=>by have:=a v hv;omega,by omega,fun e=>by have:=c e;omega⟩
   rcases zLo hy with h | rfl
   .exact up (I.buf y h)
   .exact up B'
  have hL:=I.L;rcases zl5 s m x with ⟨k1,k2,k3⟩ | ⟨k1,k2,k3,k4,k5⟩
  .refine ⟨fun o ho=>?_,fun o ho=>?_,fun o h1 h2=>?_,?_,?_,?_⟩
   .dsimp only at ho ⊢;rw [k1];rcases k2 with e | ⟨e,hpc⟩ | e
    .rw [e] at ho;exact I.mrk o ho
    .rw [e] at ho;rcases (ziB s.T x.G.Obj).2 with e2 | e2
     .rw [e2] at ho;exact I.mrk o ho
     .rw [e2] at ho;rcases YB ho with h | rfl
      .exact I.mrk o h
      .exact B.2.2 hpc
    .rw [e,(zai s.T x.Obj).1] at ho;exact I.mrk o ho
   .dsimp only at ho ⊢;rcases k2 with e | ⟨e,hpc⟩ | e
    .rw [e] at ho ⊢;exact I.bm o ho
    .rw [e] at ho ⊢;rw [(ziB s.T x.G.Obj).1] at ho;have:=I.bm o ho;rcases (ziB s.T x.G.Obj).2 with e2 | e2
     .rw [e2];exact this
     .rw [e2];exact (xq _ _ _).2 (.inl this)
    .rw [e] at ho ⊢;rw [(zai s.T x.Obj).1];rcases (zai s.T x.Obj).2 with e2 | ⟨e2,h3⟩
     .rw [e2] at ho;exact I.bm o ho
     .rw [e2] at ho;rcases YB ho with h | rfl
      .exact I.bm o h
      .exact h3
   .dsimp only at h2 ⊢;rw [k1] at h2;have h:=(zsV _ _).1 (I.bk o h1 h2);rw [zsV];rcases k2 with e | ⟨e,hpc⟩ | e
    .rw [e];exact h
    .rw [e,(ziB s.T x.G.Obj).1];refine ⟨?_,h.2⟩;rcases (ziB s.T x.G.Obj).2 with e2 | e2
     .rw [e2];exact h.1
     .rw [e2];exact (xq _ _ _).2 (.inl h.1)
    .rw [e,(zai s.T x.Obj).1];refine ⟨h.1,?_⟩;rcases (zai s.T x.Obj).2 with e2 | ⟨e2,_⟩
     .rw [e2];exact h.2
     .rw [e2];exact (xq _ _ _).2 (.inl h.2)
   .dsimp only;rw [k1];exact bufs _ (zK6 _)
   .dsimp only;rw [zK3];rcases k3 with e | ⟨w,e⟩ | e
    .rw [e];exact I.bl
    .rw [e,hL.take];exact I.bl
    .rw [e,zHO];exact I.bl
   .dsimp only;rw [k1];rcases k3 with e | ⟨w,e⟩ | e
    .rw [e];exact hL.more
    .rw [e,hL.take];exact hL.more
    .rw [e];exact hL.earn hp hk (by have:=I.bl;omega)
  .have w:wc ((s.H.Objs.length:Int)+1)=(s.H.Objs.length:Int)+1:=yQ;have hal:=ZN s.H;have hP:=E.S.P;have hr:(s.H.Objs.length:Int)<s.P.Most:=by
    unfold ZB at k5;simp only [zKF,decide_eq_true_eq] at k5;exact k5.1
   rw [hP] at hr k3 k4;rw [w] at k2;have nm: ¬zP s.T.Marks ((s.H.Objs.length:Int)+1)=true:=fun e=>by have:=I.mrk _ e;omega
   have nb': ¬zP s.T.Black ((s.H.Objs.length:Int)+1)=true:=fun e=>nm (I.bm _ e);have hsh:=zyC (t:=s.T) (o:=(s.H.Objs.length:Int)+1) (by omega) nm nb';have ht1:yp {s.T with Marks:=s.T.Marks|||bit ((s.H.Objs.length:Int)+1)} ((s.H.Objs.length:Int)+1)=1 :=
    (w8 _ _).2 ⟨(yO _ (by omega) _).2 (.inr rfl),nb'⟩
   have hT:(zt s m x).1.T=⟨s.T.Marks|||bit ((s.H.Objs.length:Int)+1),s.T.Black|||bit ((s.H.Objs.length:Int)+1)⟩:=by
    rw [k2];unfold Y0;rw [hsh];dsimp only;rw [zb rfl];unfold xj;rw [zb ht1]
   refine ⟨fun o ho=>?_,fun o ho=>?_,fun o h1 h2=>?_,?_,?_,?_⟩
   .dsimp only at ho ⊢;rw [k1,hal];rw [hT] at ho;rcases YB ho with h | rfl
    .have:=I.mrk o h;omega
    .omega
   .dsimp only at ho ⊢;rw [hT] at ho ⊢;dsimp only at ho ⊢;rw [xq];rcases (xq _ _ _).1 ho with h | h
    .exact .inl (I.bm o h)
    .exact .inr h
   .dsimp only at h2 ⊢;rw [k1,hal] at h2;rw [zsV,hT];dsimp only;by_cases ho:o<=(s.H.Objs.length:Int)
    .have h:=(zsV _ _).1 (I.bk o h1 ho);exact ⟨(xq _ _ _).2 (.inl h.1),(xq _ _ _).2 (.inl h.2)⟩
    .have:o=(s.H.Objs.length:Int)+1:=by omega
     subst this;exact ⟨(yO _ (by omega) _).2 (.inr rfl),(yO _ (by omega) _).2 (.inr rfl)⟩
   .dsimp only;rw [k1,hal];exact bufs _ (by omega)
   .dsimp only;rw [zK3,k3];unfold V1;rw [zK3];exact I.bl
   .dsimp only;rw [k3,k1,hal];have:=hL.spend hp hk (by omega) k4;have e:((s.H.Objs.length+1:Nat):Int)-(p.H.Objs.length:Int)=(s.H.Objs.length:Int)-(p.H.Objs.length:Int)+1:=by omega
    rw [e];exact this
def ue (p:zd) (s:za) (g:Gh):List Int:=yL p s g++(s.Ws.flatMap (z5 s)++s.Ms.flatMap (yn s))
structure FG (p:zd) (nb k:Nat) (s:za) (gh:Gh):Prop where
 E:EOk p nb s
 X:SX p nb s gh (s.Ws.flatMap wW++s.Ms.flatMap u7) k
 W:∀(i:Nat) x,s.Ws[i]? =some x->WX p s gh ((i:Int)+1) x
 M:∀(i:Nat) x,s.Ms[i]? =some x->MX p s gh x
 B:zbS (ue p s gh) s.T
 mrk:∀o,zP s.T.Marks o=true->o<=(s.H.Objs.length:Int)
 wob:∀(i:Nat) x,s.Ws[i]? =some x->x.PC=6->x.G.Obj<=(s.H.Objs.length:Int)
 buf:∀x∈s.Ms,zfG (s.H.Objs.length:Int) x
 bk:∀o,(p.H.Objs.length:Int)<o->o<=(s.H.Objs.length:Int)->zP s.T.Black o=true
 ne:∀y∈gh.F,yT s y≠[]
theorem FX.ne {p:zd}{nb k:Nat}{s s':za}{gh gh':Gh}{Y R:List Int}{O:Int->Prop}(X:SX p nb s gh (Y++R) k) (Fx:FX p nb Y O s s' gh gh') (h:∀y∈gh.F,yT s y≠[]):∀y∈gh'.F,yT s' y≠[]:=fun y hy =>
 (Fx.fb y hy).elim (fun hy=>by
  have h1:=zrI.1 (X.L.all.subset (zKZ _ (zKZ _ hy)));have h2:y∉Y:=fun e=>(X.L.notF (zKZ _ e)).1 hy;have:=Fx.bn y h1.1 h2;unfold yT;rw [this];exact h y hy) id
theorem MX.state {p:zd}{s s':za}{gh:Gh}{x:ze}(W:MX p s gh x) (hm:s'.M=s.M) (hb:s'.Bins=s.Bins):MX p s' gh x :=
 ⟨W.bt,W.bf,W.ol,fun e=>⟨(W.p3 e).1.state hm hb,(W.p3 e).2⟩,by rw [hm];exact W.p32,by rw [hm];exact W.p34,fun e=>⟨(W.p37 e).1.state hm hb,(W.p37 e).2⟩⟩
theorem zil {s s':za}{x:ze}(hb:s'.Bins=s.Bins):yn s' x=yn s x:=by
 unfold yn zcf yT;rw [hb]
def zbd (s s':za):Prop :=
 (s'.T=s.T/\s'.H.Objs.length=s.H.Objs.length) \/
 (∃o,(1<=o/\o<=(s.H.Objs.length:Int))/\¬zP s.T.Marks o=true/\s'.T={s.T with Marks:=s.T.Marks|||bit o}/\s'.H=s.H) \/
 (∃o,yp s.T o=1/\s'.T={s.T with Black:=s.T.Black|||bit o}/\s'.H=s.H) \/
 (s'.H=yP s.H/\(s.H.Objs.length:Int)<9/\s'.T=⟨s.T.Marks|||bit ((s.H.Objs.length:Int)+1),s.T.Black|||bit ((s.H.Objs.length:Int)+1)⟩)
theorem FG.tints {p:zd}{nb k:Nat}{s:za}{gh:Gh}(G:FG p nb k s gh) {s':za}(F:zbd s s') :
  (∀o,zP s'.T.Marks o=true->o<=(s'.H.Objs.length:Int))/\(∀o,(p.H.Objs.length:Int)<o->o<=(s'.H.Objs.length:Int)->zP s'.T.Black o=true):=by
 rcases F with ⟨e,h⟩ | ⟨o,ho,hn,e,h⟩ | ⟨o,ho,e,h⟩ | ⟨h,hl,e⟩
 .rw [e,h];exact ⟨G.mrk,G.bk⟩
 .rw [e,h];refine ⟨fun q hq=>?_,G.bk⟩;rcases YB hq with hq | rfl
  .exact G.mrk q hq
  .exact ho.2
 .rw [e,h];exact ⟨G.mrk,fun q h1 h2=>(xq _ _ _).2 (.inl (G.bk q h1 h2))⟩
 .rw [e,h];have hal:=ZN s.H;refine ⟨fun q hq=>?_,fun q h1 h2=>?_⟩
  .rcases YB hq with hq | rfl
   .have:=G.mrk q hq;omega
   .omega
  .dsimp only;by_cases hq:q<=(s.H.Objs.length:Int)
   .exact (xq _ _ _).2 (.inl (G.bk q h1 hq))
   .have:q=(s.H.Objs.length:Int)+1:=by omega
    subst this;exact (yO _ (by omega) _).2 (.inr rfl)
theorem FG.det {p:zd}(hp:zI p) {nb k:Nat}{s:za}{gh:Gh}(G:FG p nb k s gh) (hd:({xY s with Epoch:=s.Epoch,Flag:=s.Flag,Done:=s.Done,Restarts:=s.Restarts,D:=s.D}:za)=s):FG p nb (k+1) (xY s) gh:=by
 have hE:=zH5 hp G.E;have eM:(xY s).M=s.M:=by conv=>rhs;rw [<-hd]
 have eB:(xY s).Bins=s.Bins:=by conv=>rhs;rw [<-hd]
 have eT:(xY s).T=s.T:=by conv=>rhs;rw [<-hd]
 have eH:(xY s).H=s.H:=by conv=>rhs;rw [<-hd]
 have eW:(xY s).Ws=s.Ws:=by conv=>rhs;rw [<-hd]
 have eX:(xY s).Ms=s.Ms:=by conv=>rhs;rw [<-hd]
 refine ⟨hE,?_,?_,?_,?_,by rw [eT,eH];exact G.mrk,by rw [eW,eH];exact G.wob,by rw [eX,eH];exact G.buf,by rw [eT,eH];exact G.bk,by unfold yT;rw [eB];exact G.ne⟩
 .rw [eW,eX];exact G.X.quiet hE.S eM
 .rw [eW];exact fun i x hx=>(G.W i x hx).state eM eB
 .rw [eX];exact fun i x hx=>(G.M i x hx).state eM eB
 .have e:ue p (xY s) gh=ue p s gh:=by
   unfold ue;rw [eW,eX,ZK eB,wi (fun x _=>zd0 (x:=x) eM eB),wi (fun x _=>zil (x:=x) eB)]
  rw [e,eT];exact G.B
theorem FG.worker {p:zd}(hp:zI p) {nb k:Nat}{s:za}{gh:Gh}(hk:k<4294960000) (G:FG p nb k s gh) {w:Int}(hw:1<=w/\w<=p.Workers) (hd:s.Done=false):∃gh',FG p nb (k+1) (zS s w) gh'/\zbd s (zS s w) /\
  ∃x,s.Ws[(w-1).toNat]? =some x/\∃N C,List.Perm (ue p (zS s w) gh'++C) (N++ue p s gh)/\((N=[]/\C=[]/\(zu s w x).1.T=s.T)\/(N=[x.G.Obj]/\C=[]/\x.PC=6/\¬(s.T.Marks|||bit x.G.Obj=s.T.Marks)/\(zu s w x).1.T={s.T with Marks:=s.T.Marks|||bit x.G.Obj})\/(N=[]/\C=[x.Obj]/\x.PC=8/\(zu s w x).1.T=xj s.T x.Obj)):=by
 have hE:=zuT hp G.E w;have hwl:=G.E.wl;have e0: ¬(s.Done=true\/w<1\/(s.Ws.length:Int)<w):=by rw [hd];rintro (e | e | e)<;>first | cases e | omega
 revert hE;unfold zS;rw [zc e0];have hi:(w-1).toNat<s.Ws.length:=by omega
 have hx:=zKG hi;generalize s.Ws[(w-1).toNat]=x at hx;rw [hx];dsimp only;intro hE;obtain ⟨a,b,el,es,hab,hba⟩:=zuB hx;have ei:(((w-1).toNat:Nat):Int)+1=w:=by omega
 have hWX:=G.W _ x hx;have hWO:=G.E.W _ x hx;rw [ei] at hWX hWO;have hfr:=zkv (s:=s) hWO;have eH:(zu s w x).1.H=s.H:=by rw [hfr]
 have eMs:(zu s w x).1.Ms=s.Ms:=by rw [hfr]
 have X0:SX p nb s gh (wW x++((a++b).flatMap wW++s.Ms.flatMap u7)) k:=by
  refine G.X.perm ?_;rw [<-zKM];refine zMc _ ?_
  conv=>rhs;rw [el]
  exact ZW.symm
 obtain ⟨gh',X',W',Fx,N,C,hN,hT⟩:=zIa hp hk hw X0 hWO hWX (fun o i=>G.E.H.get hp o i);have hoth:∀(j:Nat) y,j≠(w-1).toNat->s.Ws[j]? =some y->WX p (zu s w x).1 gh' ((j:Int)+1) y/\z5 (zu s w x).1 y=z5 s y:=by
  intro j y hj hy;have hjl:=(zKO.1 hy).1;exact WX.other hp (w:=(j:Int)+1) (by omega) X0 Fx (G.W j y hy) (G.E.W j y hy) (fun z hz=>zKZ _ (zMb.2 ⟨y,hba j y hj hy,hz⟩)) (fun e=>hj (by omega))
 have hmut:∀(j:Nat) y,s.Ms[j]? =some y->MX p (zu s w x).1 gh' y/\yn (zu s w x).1 y=yn s y:=by
  intro j y hy;exact MX.other hp X0 Fx (G.M j y hy) (G.E.X j y hy) (fun z hz=>zLd _ (zMb.2 ⟨y,zKK hy,hz⟩))
 have hbag:List.Perm (ue p {(zu s w x).1 with Ws:=s.Ws.set (w-1).toNat (zu s w x).2} gh'++C) (N++ue p s gh):=by
  unfold ue;have q2:(s.Ws.set (w-1).toNat (zu s w x).2).flatMap (z5 {(zu s w x).1 with Ws:=s.Ws.set (w-1).toNat (zu s w x).2})=(a++(zu s w x).2::b).flatMap (z5 (zu s w x).1):=by
   rw [es];exact wi (fun y _=>zd0 rfl rfl)
  have q3:(a++b).flatMap (z5 (zu s w x).1)=(a++b).flatMap (z5 s):=wi (fun y hy=>by
   obtain ⟨j,hj,hjy⟩:=hab y hy;exact (hoth j y hj hjy).2)
  have q4:(zu s w x).1.Ms.flatMap (yn {(zu s w x).1 with Ws:=s.Ws.set (w-1).toNat (zu s w x).2})=s.Ms.flatMap (yn s):=by
   rw [eMs];refine wi (fun y hy=>?_);obtain ⟨j,hj⟩:=zMo.1 hy;exact (zil (s:=(zu s w x).1) rfl).trans (hmut j y hj).2
  show List.Perm (yL p (zu s w x).1 gh'++((s.Ws.set (w-1).toNat (zu s w x).2).flatMap (z5 {(zu s w x).1 with Ws:=s.Ws.set (w-1).toNat (zu s w x).2})++(zu s w x).1.Ms.flatMap (yn {(zu s w x).1 with Ws:=s.Ws.set (w-1).toNat (zu s w x).2}))++C) _;rw [q2,q4];have r1:List.Perm (yL p (zu s w x).1 gh'++((a++(zu s w x).2::b).flatMap (z5 (zu s w x).1)++s.Ms.flatMap (yn s))++C) (((a++b).flatMap (z5 s)++s.Ms.flatMap (yn s))++(yL p (zu s w x).1 gh'++z5 (zu s w x).1 (zu s w x).2++C)):=by
   refine ((zKR _ (zMc _ ZW)).append_right C).trans ?_;rw [q3];generalize (a++b).flatMap (z5 s)=u;generalize s.Ms.flatMap (yn s)=v;generalize yL p (zu s w x).1 gh'=y;generalize z5 (zu s w x).1 (zu s w x).2=z;have:List.Perm (y++(z++(u++v))++C) ((u++v)++(y++z++C)):=by
    generalize u++v=q;rw [zKM,zKM,zKM];refine (zKR _ (zK9 _ _ _)).trans ?_;exact (zK9 _ _ _)
   rw [zKM z u v];exact this
  have r2:List.Perm (N++(yL p s gh++(s.Ws.flatMap (z5 s)++s.Ms.flatMap (yn s)))) (((a++b).flatMap (z5 s)++s.Ms.flatMap (yn s))++(N++(yL p s gh++z5 s x))):=by
   conv=>lhs;rw [el]
   refine (zKR _ (zKR _ (zMc _ ZW))).trans ?_;generalize (a++b).flatMap (z5 s)=u;generalize s.Ms.flatMap (yn s)=v;generalize yL p s gh=y;generalize z5 s x=z;rw [zKM z u v];generalize u++v=q;refine (zKR _ ?_).trans (zK9 _ _ _);rw [<-zKM];exact zLs
  exact r1.trans ((zKR _ hN).trans r2.symm)
 have hFM:zbd s {(zu s w x).1 with Ws:=s.Ws.set (w-1).toNat (zu s w x).2}/\zbS (ue p {(zu s w x).1 with Ws:=s.Ws.set (w-1).toNat (zu s w x).2} gh') (zu s w x).1.T:=by
  rcases hT with ⟨e1,e2,t1⟩ | ⟨e1,e2,t1,t2,t3⟩ | ⟨e1,e2,t1,t2⟩
  .rw [e1,e2,zKI,zKP] at hbag;refine ⟨.inl ⟨t1,congrArg (fun h:zr=>h.Objs.length) eH⟩,⟨?_,hbag.nodup_iff.2 G.B.nd,fun o=>?_⟩⟩
   .rw [t1];exact G.B.blk
   .rw [t1,hbag.mem_iff];exact G.B.gr o
  .have ho:=((hWX.p6 t1).1).ob;rw [e1,e2,zKI] at hbag;refine ⟨.inr (.inl ⟨x.G.Obj,⟨ho.1,G.wob _ x hx t1⟩,(uJ ho).1 t2,t3,eH⟩),?_⟩;rw [t3];exact G.B.more ho t2 hbag
  .rw [e1,e2,zKP] at hbag;obtain ⟨b1,b2,b3,b4⟩:=G.B.less hbag;refine ⟨.inr (.inr (.inl ⟨x.Obj,b3,?_,eH⟩)),by rw [t2];exact b1⟩;show (zu s w x).1.T=_;rw [t2];unfold xj;rw [zb b3]
 obtain ⟨hFM,hB⟩:=hFM;obtain ⟨t1,t2⟩:=G.tints hFM;refine ⟨gh',⟨hE,?_,fun j y hy=>?_,fun j y hy=>?_,hB,t1,fun j y hy h6=>?_,fun y hy=>?_,t2,fun y hy=>show yT (zu s w x).1 y≠[] from FX.ne X0 Fx G.ne y hy⟩,hFM,x,rfl,N,C,hbag,hT⟩
 .refine (X'.state hE.S rfl).perm ?_;show List.Perm ((s.Ws.set (w-1).toNat (zu s w x).2).flatMap wW++(zu s w x).1.Ms.flatMap u7) _;rw [es,eMs,<-zKM];exact zMc _ ZW
 .have hy:(s.Ws.set (w-1).toNat (zu s w x).2)[j]? =some y:=hy;by_cases hj:j=(w-1).toNat
  .subst hj;rw [zLL hi] at hy;injection hy with hy;rw [<-hy,ei];exact W'.state rfl rfl
  .rw [zLf (fun e=>hj e.symm)] at hy;exact (hoth j y hj hy).1.state rfl rfl
 .have hy:(zu s w x).1.Ms[j]? =some y:=hy;rw [eMs] at hy;exact (hmut j y hy).1.state rfl rfl
 .have hy:(s.Ws.set (w-1).toNat (zu s w x).2)[j]? =some y:=hy;show y.G.Obj<=((zu s w x).1.H.Objs.length:Int);rw [eH];by_cases hj:j=(w-1).toNat
  .subst hj;rw [zLL hi] at hy;injection hy with hy;rw [<-hy] at h6 ⊢;rcases zvl s w x h6 with ⟨h,e⟩ | ⟨h,e⟩
   .rw [e];exact G.wob _ x hx h
   .rw [e];exact zB9 (by omega) (fun l hl v hv=>((G.E.H.objs l hl).2 v hv).2) _ _
  .rw [zLf (fun e=>hj e.symm)] at hy;exact G.wob j y hy h6
 .have hy:y∈(zu s w x).1.Ms:=hy;show zfG ((zu s w x).1.H.Objs.length:Int) y;rw [eMs] at hy;rw [eH];exact G.buf y hy
theorem zqM (s:za) (m:Int) (x:ze):(zt s m x).1.H=s.H\/x.PC=23\/x.PC=30:=by
 refine xZ (motive:=fun r=>r.1.H=s.H\/x.PC=23\/x.PC=30) s m x ?_ ?_ ?_ ?_ ?_ ?_ ?_ ?_ ?_ ?_ ?_ ?_ ?_ ?_ ?_ ?_ ?_ ?_ ?_ ?_
 all_goals first
  | exact fun _=>.inl rfl
  | exact fun c=>.inr (.inl c)
  | exact fun c=>.inr (.inr c)
  | (intro c;unfold mu3;exact .inl (by dsimp only;rw [uf]))
  | (intro c;unfold za5;exact .inl (by dsimp only;rw [uf]))
  | exact .inl rfl
theorem zev {t:zn}{n:Int}(hn:1<=n/\n<=64) (nm: ¬zP t.Marks n=true) (nb': ¬zP t.Black n=true):Y0 t n=⟨t.Marks|||bit n,t.Black|||bit n⟩:=by
 have ht1:yp {t with Marks:=t.Marks|||bit n} n=1:=(w8 _ _).2 ⟨(yO _ hn _).2 (.inr rfl),nb'⟩;unfold Y0;rw [zyC hn nm nb'];dsimp only;rw [zb rfl];unfold xj;rw [zb ht1]
theorem zbS.fresh {B B':List Int}{t:zn}{n:Int}(hn:1<=n/\n<=64) (nm: ¬zP t.Marks n=true) (K:zbS B t) (h:List.Perm B' B):zbS B' ⟨t.Marks|||bit n,t.Black|||bit n⟩:=by
 refine ⟨fun o ho=>?_,h.nodup_iff.2 K.nd,fun o=>?_⟩
 .rcases (yO _ hn o).1 ho with h | h
  .exact (yO _ hn o).2 (.inl (K.blk o h))
  .exact (yO _ hn o).2 (.inr h)
 .rw [h.mem_iff,K.gr,w8,w8];dsimp only;rw [yO _ hn,yO _ hn];constructor
  .rintro ⟨a1,a2⟩;refine ⟨.inl a1,fun e=>e.elim a2 (fun e=>?_)⟩;rw [e] at a1;exact nm a1
  .rintro ⟨a1,a2⟩;exact ⟨a1.resolve_right (fun e=>a2 (.inr e)),fun e=>a2 (.inl e)⟩
theorem FG.mut_tint {p:zd}(hp:zI p) {nb k:Nat}{s:za}{gh:Gh}(G:FG p nb k s gh) {m:Int}{x:ze}(hMX:MX p s gh x) (hBI:zfG (s.H.Objs.length:Int) x) {l:List ze}{N C B':List Int}
  (hbag:List.Perm (B'++C) (N++ue p s gh))
  (hT:(N=[]/\C=[]/\(zt s m x).1.T=s.T)\/(N=[x.G.Obj]/\C=[]/\(x.PC=3\/x.PC=37)/\¬(s.T.Marks|||bit x.G.Obj=s.T.Marks)/\(zt s m x).1.T={s.T with Marks:=s.T.Marks|||bit x.G.Obj})\/(N=[]/\C=[x.Obj]/\x.PC=38/\(zt s m x).1.T=xj s.T x.Obj) \/
   (N=[]/\C=[]/\x.PC=30/\ZB s.H s.P.Most=true/\(zt s m x).1.H=yP s.H/\(zt s m x).1.T=Y0 s.T (wc (s.H.Objs.length+1)))) :
  zbd s {(zt s m x).1 with Ms:=l}/\zbS B' (zt s m x).1.T:=by
 have hN0:=G.E.H.n;have hM0:=hp.most;have hn6:=hp.n;have nm: ¬zP s.T.Marks ((s.H.Objs.length:Int)+1)=true:=fun e=>by have:=G.mrk _ e;omega
 have nb': ¬zP s.T.Black ((s.H.Objs.length:Int)+1)=true:=fun e=>nm (G.B.blk _ e);have hw:wc ((s.H.Objs.length:Int)+1)=(s.H.Objs.length:Int)+1:=yQ;rcases hT with ⟨e1,e2,t1⟩ | ⟨e1,e2,t1,t2,t3⟩ | ⟨e1,e2,t1,t2⟩ | ⟨e1,e2,t1,t2,t3,t4⟩
 .rw [e1,e2,zKI,zKP] at hbag;refine ⟨.inl ⟨t1,?_⟩,⟨?_,hbag.nodup_iff.2 G.B.nd,fun o=>?_⟩⟩
  .show (zt s m x).1.H.Objs.length=_;rcases zl5 s m x with h | ⟨h1,h2,_,_,h5⟩
   .exact h.1
   .exfalso;rw [t1,hw,zev (by omega) nm nb'] at h2;have h3:=congrArg zn.Marks h2;exact nm (by rw [h3];exact (yO _ (by omega) _).2 (.inr rfl))
  .rw [t1];exact G.B.blk
  .rw [t1,hbag.mem_iff];exact G.B.gr o
 .have ho:1<=x.G.Obj/\x.G.Obj<=64:=by
   rcases t1 with h | h
   .exact (hMX.p3 h).1.ob
   .exact (hMX.p37 h).1.ob
  rw [e1,e2,zKI] at hbag;have eH:(zt s m x).1.H=s.H:=by
   rcases zqM s m x with h | h | h
   .exact h
   .omega
   .omega
  refine ⟨.inr (.inl ⟨x.G.Obj,⟨ho.1,hBI.2.2 t1⟩,(uJ ho).1 t2,t3,eH⟩),?_⟩;rw [t3];exact G.B.more ho t2 hbag
 .rw [e1,e2,zKP] at hbag;obtain ⟨b1,b2,b3,b4⟩:=G.B.less hbag;have eH:(zt s m x).1.H=s.H:=by
   rcases zqM s m x with h | h | h
   .exact h
   .omega
   .omega
  refine ⟨.inr (.inr (.inl ⟨x.Obj,b3,?_,eH⟩)),by rw [t2];exact b1⟩;show (zt s m x).1.T=_;rw [t2];unfold xj;rw [zb b3]
 .rw [e1,e2,zKI,zKP] at hbag;have hr:(s.H.Objs.length:Int)<s.P.Most:=by
   unfold ZB at t2;simp only [zKF,decide_eq_true_eq] at t2;exact t2.1
  rw [G.E.S.P] at hr;have hTT:(zt s m x).1.T=⟨s.T.Marks|||bit ((s.H.Objs.length:Int)+1),s.T.Black|||bit ((s.H.Objs.length:Int)+1)⟩:=by
   rw [t4,hw,zev (by omega) nm nb']
  refine ⟨.inr (.inr (.inr ⟨t3,by omega,hTT⟩)),?_⟩;rw [hTT];exact G.B.fresh (by omega) nm hbag
theorem FG.mutator {p:zd}(hp:zI p) {nb k:Nat}{s:za}{gh:Gh}(hk:k<4294960000) (G:FG p nb k s gh) {m:Int}(hm:1<=m/\m<=p.Mutators) (hd:s.Done=false):∃gh',FG p nb (k+1) (zO s m) gh'/\zbd s (zO s m) /\
  ∃x,s.Ms[(m-1).toNat]? =some x/\∃N C,List.Perm (ue p (zO s m) gh'++C) (N++ue p s gh)/\((N=[]/\C=[]/\(zt s m x).1.T=s.T)\/(N=[x.G.Obj]/\C=[]/\(x.PC=3\/x.PC=37)/\¬(s.T.Marks|||bit x.G.Obj=s.T.Marks)/\(zt s m x).1.T={s.T with Marks:=s.T.Marks|||bit x.G.Obj})\/(N=[]/\C=[x.Obj]/\x.PC=38/\(zt s m x).1.T=xj s.T x.Obj) \/
   (N=[]/\C=[]/\x.PC=30/\ZB s.H s.P.Most=true/\(zt s m x).1.H=yP s.H/\(zt s m x).1.T=Y0 s.T (wc (s.H.Objs.length+1)))):=by
 have hE:=zy0 hp G.E m;have hml:=G.E.ml;have hwl:=G.E.wl;have hN0:=G.E.H.n;have hM0:=hp.most;have hn6:=hp.n;have e0: ¬(s.Done=true\/m<1\/(s.Ms.length:Int)<m):=by rw [hd];rintro (e | e | e)<;>first | cases e | omega
 revert hE;unfold zO;rw [zc e0];have hi:(m-1).toNat<s.Ms.length:=by omega
 have hx:=zKG hi;generalize s.Ms[(m-1).toNat]=x at hx;rw [hx];dsimp only;intro hE;obtain ⟨a,b,el,es,hab,hba⟩:=zuB hx;have ei:(((m-1).toNat:Nat):Int)+1=m:=by omega
 have hMX:=G.M _ x hx;have hXO:=G.E.X _ x hx;rw [ei] at hXO;have hBI:=G.buf x (zKK hx);have hfr:=ziP s m x;have eWs:(zt s m x).1.Ws=s.Ws:=by rw [hfr]
 have X0:SX p nb s gh (u7 x++((a++b).flatMap u7++s.Ws.flatMap wW)) k:=by
  refine G.X.perm ?_;rw [<-zKM];refine List.Perm.trans (zMc _ ?_) zLs
  conv=>rhs;rw [el]
  exact ZW.symm
 obtain ⟨gh',X',M',Fx,N,C,hN,hT⟩:=zJV hp hk X0 hXO hMX (zwR hp m) (fun o i=>G.E.H.get hp o i);have hoth:∀(j:Nat) y,j≠(m-1).toNat->s.Ms[j]? =some y->MX p (zt s m x).1 gh' y/\yn (zt s m x).1 y=yn s y:=by
  intro j y hj hy;exact MX.other hp X0 Fx (G.M j y hy) (G.E.X j y hy) (fun z hz=>zKZ _ (zMb.2 ⟨y,hba j y hj hy,hz⟩))
 have hwrk:∀(j:Nat) y,s.Ws[j]? =some y->WX p (zt s m x).1 gh' ((j:Int)+1) y/\z5 (zt s m x).1 y=z5 s y:=by
  intro j y hy;have hjl:=(zKO.1 hy).1;exact WX.other hp (w:=(j:Int)+1) (by omega) X0 Fx (G.W j y hy) (G.E.W j y hy) (fun z hz=>zLd _ (zMb.2 ⟨y,zKK hy,hz⟩)) (fun e=>e)
 have hbag:List.Perm (ue p {(zt s m x).1 with Ms:=s.Ms.set (m-1).toNat (zt s m x).2} gh'++C) (N++ue p s gh):=by
  unfold ue;have q2:(s.Ms.set (m-1).toNat (zt s m x).2).flatMap (yn {(zt s m x).1 with Ms:=s.Ms.set (m-1).toNat (zt s m x).2})=(a++(zt s m x).2::b).flatMap (yn (zt s m x).1):=by
   rw [es];exact wi (fun y _=>zil rfl)
  have q3:(a++b).flatMap (yn (zt s m x).1)=(a++b).flatMap (yn s):=wi (fun y hy=>by
   obtain ⟨j,hj,hjy⟩:=hab y hy;exact (hoth j y hj hjy).2)
  have q4:(zt s m x).1.Ws.flatMap (z5 {(zt s m x).1 with Ms:=s.Ms.set (m-1).toNat (zt s m x).2})=s.Ws.flatMap (z5 s):=by
   rw [eWs];refine wi (fun y hy=>?_);obtain ⟨j,hj⟩:=zMo.1 hy;exact (zd0 (s:=(zt s m x).1) rfl rfl).trans (hwrk j y hj).2
  show List.Perm (yL p (zt s m x).1 gh'++((zt s m x).1.Ws.flatMap (z5 {(zt s m x).1 with Ms:=s.Ms.set (m-1).toNat (zt s m x).2})++(s.Ms.set (m-1).toNat (zt s m x).2).flatMap (yn {(zt s m x).1 with Ms:=s.Ms.set (m-1).toNat (zt s m x).2}))++C) _;rw [q2,q4];have r1:List.Perm (yL p (zt s m x).1 gh'++(s.Ws.flatMap (z5 s)++(a++(zt s m x).2::b).flatMap (yn (zt s m x).1))++C) ((s.Ws.flatMap (z5 s)++(a++b).flatMap (yn s))++(yL p (zt s m x).1 gh'++yn (zt s m x).1 (zt s m x).2++C)):=by
   refine ((zKR _ (zKR _ ZW)).append_right C).trans ?_;rw [q3];generalize (a++b).flatMap (yn s)=u;generalize s.Ws.flatMap (z5 s)=v;generalize yL p (zt s m x).1 gh'=y;generalize yn (zt s m x).1 (zt s m x).2=z;refine ((zKR y (zK9 v z u)).append_right C).trans ?_;generalize v++u=q;rw [zKM,zKM,zKM];refine (zKR _ (zK9 _ _ _)).trans ?_;exact (zK9 _ _ _)
  have r2:List.Perm (N++(yL p s gh++(s.Ws.flatMap (z5 s)++s.Ms.flatMap (yn s)))) ((s.Ws.flatMap (z5 s)++(a++b).flatMap (yn s))++(N++(yL p s gh++yn s x))):=by
   conv=>lhs;rw [el]
   refine (zKR _ (zKR _ (zKR _ ZW))).trans ?_;generalize (a++b).flatMap (yn s)=u;generalize s.Ws.flatMap (z5 s)=v;generalize yL p s gh=y;generalize yn s x=z;refine (zKR N (zKR y (zK9 v z u))).trans ?_;generalize v++u=q;refine (zKR _ ?_).trans (zK9 _ _ _);rw [<-zKM];exact zLs
  exact r1.trans ((zKR _ hN).trans r2.symm)
 have hlen:(zt s m x).1.H.Objs.length=s.H.Objs.length\/(zt s m x).1.H=yP s.H:=by
  rcases zl5 s m x with h | h
  .exact .inl h.1
  .exact .inr h.1
 have hFM:=G.mut_tint hp (m:=m) (l:=s.Ms.set (m-1).toNat (zt s m x).2) hMX hBI hbag hT;obtain ⟨hFM,hB⟩:=hFM;obtain ⟨t1,t2⟩:=G.tints hFM;have hN1:(s.H.Objs.length:Int)<=((zt s m x).1.H.Objs.length:Int):=by
  rcases hlen with h | h
  .omega
  .rw [h,ZN];omega
 have B':=zyU (s:=s) hXO (n:=(s.H.Objs.length:Int)) (by omega) (fun l hl v hv=>((G.E.H.objs l hl).2 v hv).2) hBI;refine ⟨gh',⟨hE,?_,fun j y hy=>?_,fun j y hy=>?_,hB,t1,fun j y hy h6=>?_,fun y hy=>?_,t2,fun y hy=>show yT (zt s m x).1 y≠[] from FX.ne X0 Fx G.ne y hy⟩,hFM,x,rfl,N,C,hbag,hT⟩
 .refine (X'.state hE.S rfl).perm ?_;show List.Perm ((zt s m x).1.Ws.flatMap wW++(s.Ms.set (m-1).toNat (zt s m x).2).flatMap u7) _;rw [es,eWs,<-zKM];exact zLs.trans (zMc _ ZW)
 .have hy:(zt s m x).1.Ws[j]? =some y:=hy;rw [eWs] at hy;exact (hwrk j y hy).1.state rfl rfl
 .have hy:(s.Ms.set (m-1).toNat (zt s m x).2)[j]? =some y:=hy;by_cases hj:j=(m-1).toNat
  .subst hj;rw [zLL hi] at hy;injection hy with hy;rw [<-hy];exact M'.state rfl rfl
  .rw [zLf (fun e=>hj e.symm)] at hy;exact (hoth j y hj hy).1.state rfl rfl
 .have hy:(zt s m x).1.Ws[j]? =some y:=hy;rw [eWs] at hy;have:=G.wob j y hy h6;show y.G.Obj<=((zt s m x).1.H.Objs.length:Int);omega
 .have up:∀ {z:ze},zfG (s.H.Objs.length:Int) z->zfG ((zt s m x).1.H.Objs.length:Int) z:=fun ⟨a,b,c⟩=>⟨fun v hv=>by have:=a v hv;omega,by omega,fun e=>by have:=c e;omega⟩
  rcases zLo (show y∈s.Ms.set (m-1).toNat (zt s m x).2 from hy) with h | rfl
  .exact up (G.buf y h)
  .exact up B'
theorem zGo {p:zd}(h:zI p):FG p (yg p+1) 0 (xF p) (gh0 p):=by
 have G:=zJf h;have hn:=h.n;have hms:∀x∈(xF p).Ms,∃r,x=vq r:=fun x hx=>by
  obtain ⟨r,_,e⟩:=zKT.1 (show x∈p.Regs.map vq from hx);exact ⟨r,e.symm⟩
 have own:(xF p).Ms.flatMap u7=[]:=zcy (fun x hx=>by
  obtain ⟨r,rfl⟩:=hms x hx;exact ux ⟨by show (0:Int)≠3;decide,by show (0:Int)≠33;decide,by show (0:Int)≠34;decide,by show (0:Int)≠37;decide⟩)
 have hold:(xF p).Ms.flatMap (yn (xF p))=[]:=zcy (fun x hx=>by
  obtain ⟨r,rfl⟩:=hms x hx;unfold yn;rw [Zo ⟨by show (0:Int)≠3;decide,by show (0:Int)≠33;decide,by show (0:Int)≠36;decide,by show (0:Int)≠37;decide,by show (0:Int)≠38;decide⟩];rfl)
 refine ⟨G.E,by rw [own,zKI];exact G.X,G.W,fun i x hx=>?_,?_,fun o ho=>?_,fun i x hx h6=>?_,fun x hx=>?_,fun o h1 h2=>?_,zJk h⟩
 .obtain ⟨r,rfl⟩:=hms x (zKK hx);exact MX.plain ⟨by show (0:Int)≠3;decide,by show (0:Int)≠32;decide,by show (0:Int)≠34;decide,by show (0:Int)≠37;decide⟩ (fun _=>rfl) (fun v hv=>by cases hv)
   ⟨fun e=>zm e (by show ¬(0:Int)=21;decide),fun e=>zm e (by show ¬((0:Int)=22\/(((0:Int)=1\/(0:Int)=3)/\(0:Int)=22));decide)⟩
 .have e:ue p (xF p) (gh0 p)=zsD p (xF p) (gh0 p):=by unfold ue zsD;rw [hold,zKI]
  rw [e];exact G.B
 .have ho:zP (uN p) o=true:=ho;show o<=(p.H.Objs.length:Int);refine Int.not_lt.1 fun hlt=>?_;obtain ⟨a,b,_⟩:=(xL _ _).1 ho;have b2: ¬zP (xK (p.H.Objs.length:Int)) o=true:=fun e=>by
   have:=(Yv (n:=p.H.Objs.length) (by omega) o).1 e;omega
  have b3:=(vr _ _ o).2 ⟨ho,(zcE _ (by omega)).2 b2⟩;rw [zoE h] at b3;exact Yj o b3
 .obtain ⟨j,_,e⟩:=zKT.1 (show x∈(List.range p.Workers.toNat).map (uA p) from zKK hx);rw [<-e] at h6;exact zm h6 (by show ¬(0:Int)=6;decide)
 .obtain ⟨r,rfl⟩:=hms x hx;exact ⟨fun v hv=>(by cases hv),(by show (0:Int)<=(p.H.Objs.length:Int);omega),fun e=>zm e (by show ¬((0:Int)=3\/(0:Int)=37);decide)⟩
 .have:o<=(p.H.Objs.length:Int):=h2;omega
theorem FG.grey {p:zd}{nb k:Nat}{s:za}{gh:Gh}(G:FG p nb k s gh) {o:Int}(h:o∈ue p s gh):yp s.T o=1:=(G.B.gr o).1 h
theorem zpH {p:zd}{s:za}{gh:Gh}{i:Nat}{x:zj}(hx:s.Ws[i]? =some x) {o:Int}(h:o∈z5 s x):o∈ue p s gh :=
 zLd _ (zKZ _ (zMb.2 ⟨x,zKK hx,h⟩))
theorem zpB {p:zd}{s:za}{gh:Gh}{i:Nat}{x:ze}(hx:s.Ms[i]? =some x) {o:Int}(h:o∈yn s x):o∈ue p s gh :=
 zLd _ (zLd _ (zMb.2 ⟨x,zKK hx,h⟩))
theorem zct {l:List Int}(h:l.length<4294967296):yX l=some (Z3 l,()):=by
 rw [zzv,zy6 h];rfl
theorem zp8 (g:zJ) (h:1<=g.Obj):∃v,ZR g=some (v,())/\zfV [v]=some (yE g,()):=by
 rw [zwq,zlL];simp only [zq];have z:zfV [0]=some ([],()):=by rw [zA2];rfl
 unfold yE;by_cases c1:g.Out=0
 .rw [zb c1];by_cases c2:3<=g.PC
  .rw [zb c2];by_cases c3:g.PC<=7
   .rw [zb c3,zb ⟨c1,c2,c3⟩];refine ⟨g.Obj,rfl,?_⟩;rw [zA2];unfold zwD;have:decide (g.Obj=0)=false:=zL (by omega);simp [this]
   .rw [zc c3,zc (fun e=>c3 e.2.2)];exact ⟨0,rfl,z⟩
  .rw [zc c2,zc (fun e=>c2 e.2.1)];exact ⟨0,rfl,z⟩
 .rw [zc c1,zc (fun e=>c1 e.1)];exact ⟨0,rfl,z⟩
theorem zHJ {m:List (BitVec 64)}{p:zd}(hc:p.Cap<1000) (w:Int) (o:zg) {l:List Int}(hl:l.length<4000000) :
  ((xG p w).bind fun y5=>(wI m y5.1 p.Cap o).bind fun y6=>(yD (l++y6.1)).bind fun l7=>(yX l7).bind fun y8=>some (y8.1,()))=some (Z3 (l++zas m (z6 p w) p.Cap o),()):=by
 have hi:=zFA m (z6 p w) p.Cap o;rw [zbt,zKE,zCA hc,zKE,yR (by simp;omega),zKE,zct (by simp;omega)];rfl
theorem zFh {p:zd}(h:zI p) {s:za}(hP:s.P=p) {w:Int}{t c:Nat}{l:List Int}{d:zg}(K:PK p s.M w t l c d):zjG s w d=some (Yy s.M d,()):=by
 have hc:=h.cap;rw [zud,hP];unfold Yy;by_cases c3:d.PC=3
 .rw [zw c3,zA,yq];by_cases ct:d.T=d.B-1#64
  .rw [zb ct,zc (fun e=>e.2 ct),zq,zc (show ¬d.PC=6 by omega),zc (show ¬d.PC=6 by omega)]
  .rw [zc ct,zb ⟨c3,ct⟩,zbt,zKE,zq,zc ?_]
   .obtain ⟨b,e⟩:=zyk s.M (w64 ((w64 (z6 p w+2))+(((d.B-1#64)%(BitVec.ofInt 64 p.Cap)).toInt))) 0#64 0#64;have ea:w64 ((w64 (z6 p w+2))+(((d.B-1#64)%(BitVec.ofInt 64 p.Cap)).toInt))=Xy d (d.B-1#64):=by
     unfold Xy uZ;rw [K.base,K.size,zi,xT]
    dsimp only;rw [e,ea];rfl
   .have hx:p.Cap=1\/p.Cap=2\/p.Cap=3:=by omega
    rcases hx with e | e | e<;>rw [e]<;>decide
 .rw [zL c3,zM,zq,zc (show ¬(d.PC=3/\d.T≠d.B-1#64) from fun e=>c3 e.1)];by_cases c6:d.PC=6
  .rw [zb c6,zb c6]
  .rw [zc c6,zc c6]
theorem zxo {p:zd}{nb k:Nat}{s:za}{gh:Gh}(G:FG p nb k s gh) {b:Int}(h:1<=b/\b<nb):idx s.Bins b=some (yT s b)/\(yT s b).length<1000000:=by
 have hl:=G.E.S.bins;have hb:=zKG (show b.toNat<s.Bins.length by omega);have hm:=zK1 (show b.toNat<s.Bins.length by omega);unfold yT;rw [vX,hb];exact ⟨rfl,G.E.small.bin _ hm⟩
theorem zCR {p:zd}(h:zI p) {nb k:Nat}{s:za}{gh:Gh}(G:FG p nb k s gh) {i:Nat}{x:zj}(hx:s.Ws[i]? =some x):zec s ((i:Int)+1)=some (Z3 (z5 s x++gh.D ((i:Int)+1)),()):=by
 have hil:=(zKO.1 hx).1;have hwl:=G.E.wl;have hwk:=h.wk;have hP:=G.E.S.P;have hcap:=h.cap;have W:=G.W i x hx;have O:=G.E.W i x hx;have hw:1<=(i:Int)+1/\(i:Int)+1<=p.Workers:=by omega
 have D:=G.X.D _ hw.1 hw.2;have hb:=G.E.small.w x (zKK hx);have e1:w64 ((i:Int)+1-1)=(i:Int):=by rw [ya];omega
 have none0:zas s.M (z6 p ((i:Int)+1)) p.Cap (zg.mk 0 0 0 0 0#64 0#64 0 0)=gh.D ((i:Int)+1)\/x.PC=0:=by
  by_cases p0:x.PC=0
  .exact .inr p0
  .refine .inl (zul h hw (by have:=W.c0 p0;rw [this] at D;exact D) (fun e=>zm e.1 (by show ¬(0:Int)=2;decide)))
 rw [zum,zq,zi,zq,zi,e1,xz hx,zKE,Wz (by omega),zKE,hP];generalize hwi:(i:Int)+1=w at *;unfold z5 UH;have hpc:=O.pc;have cases10:x.PC=0\/x.PC=1\/x.PC=2\/x.PC=3\/x.PC=4\/x.PC=5\/x.PC=6\/x.PC=7\/x.PC=8\/x.PC=9:=by omega
 have fin:∀ {l:List Int}(o:zg),l.length<4000000->zas s.M (z6 p w) p.Cap o=gh.D w->((xG p w).bind fun y5=>(wI s.M y5.1 p.Cap o).bind fun y6=>(yD (l++y6.1)).bind fun l7=>(yX l7).bind fun y8=>some (y8.1,()))=some (Z3 (l++gh.D w),()):=fun o hl e=>by
  rw [zHJ (by omega) w o hl,e]
 rcases cases10 with c | c | c | c | c | c | c | c | c | c
 all_goals simp only [c,Int.reduceEq,decide_true,decide_false,zA,zM,if_true,if_false,or_true,or_false,true_or,false_or]
 .have K:=W.p0 c;have hpl:(Yy s.M x.D).length<=1:=by
   unfold Yy;split
   .simp
   .split<;>simp
  rw [zFh h hP K,zKE,yR (by simp;omega),zKE];exact fin _ (by simp;omega) (zFd h hw D K)
 .rw [zKI];exact fin _ (by omega) (none0.resolve_right (by omega))
 .rw [zKI];exact fin _ (by omega) (none0.resolve_right (by omega))
 .obtain ⟨b1,b2⟩:=zxo G (O.b3 c);rw [b1,zKE,yR (by simp;omega),zKE];exact fin _ (by simp;omega) (none0.resolve_right (by omega))
 .rw [zKI];exact fin _ (by omega) (none0.resolve_right (by omega))
 .rw [yR (by simp;omega),zKE];exact fin _ (by simp;omega) (none0.resolve_right (by omega))
 .obtain ⟨g1,g2,g3,g4⟩:=W.p6 c;have hob:=g1.ob;obtain ⟨v,v1,v2⟩:=zp8 x.G hob.1;have hhl:(yE x.G).length<=1:=by unfold yE;split<;>simp
  rw [yR (by simp;omega),zKE,v1,zKE];dsimp only;rw [v2,zKE,yR (by simp;omega),zKE];have ea:x.Batch++x.Obj::yE x.G=x.Batch++[x.Obj]++yE x.G:=by simp
  rw [ea,zq];by_cases g3':x.G.PC=3
  .rw [zb g3'];have:=(g1.d3 g3' g4).2.2.kind;exact fin _ (by simp;omega) (zul h hw (by have:=W.c0 (by omega);rw [this] at D;exact D) (fun e=>by have:=e.1;omega))
  .rw [zc g3'];exact fin _ (by simp;omega) (none0.resolve_right (by omega))
 .rw [zKI];exact fin _ (by omega) (none0.resolve_right (by omega))
 .rw [yR (by simp;omega),zKE];exact fin _ (by simp;omega) (none0.resolve_right (by omega))
 .rw [zKI];exact fin _ (by omega) (none0.resolve_right (by omega))
theorem zA9 {p:zd}(h:zI p) {nb k:Nat}{s:za}{gh:Gh}(G:FG p nb k s gh) {i:Nat}{x:ze}(hx:s.Ms[i]? =some x):zcV s ((i:Int)+1)=some (Z3 (yn s x),()):=by
 have hil:=(zKO.1 hx).1;have hml:=G.E.ml;have hmt:=h.mt;have W:=G.M i x hx;have O:=G.E.X i x hx;have hb:=(G.E.small.mu x (zKK hx)).2.2;have e1:w64 ((i:Int)+1-1)=(i:Int):=by rw [ya];omega
 have hhl:(yE x.G).length<=1:=by unfold yE;split<;>simp
 rw [ztI,zq,zi,zq,zi,e1,xz hx,zKE,Wz (by omega),zKE];unfold yn zcf;have nog:x.PC≠3/\x.PC≠37->Zc x=some (false,()):=fun e=>by rw [ze9,zL e.1,zL e.2];rfl
 have ysg:x.PC=3\/x.PC=37->Zc x=some (true,()):=fun e=>by
  rw [ze9];by_cases c:x.PC=3
  .rw [zw c];rfl
  .rw [zL c,zw (e.resolve_left c)];rfl
 by_cases c33:x.PC=33
 .obtain ⟨b1,b2⟩:=zxo G (O.b33 c33);have h36: ¬(36:Int)<=x.PC:=by omega
  rw [zw c33,zA,b1,zKE,yR (by simp;omega),zKE,zL h36,zM,nog (by omega),zKE,zM,zct (by simp;omega),zb c33];rfl
 rw [zL c33,zM,zc c33];by_cases c3:x.PC=3
 .obtain ⟨v,v1,v2⟩:=zp8 x.G (W.p3 c3).1.ob.1;have h36: ¬(36:Int)<=x.PC:=by omega
  rw [zL h36,zM,ysg (.inl c3),zKE,zA,v1,zKE];dsimp only;rw [v2,zKE,yR (by simp;omega),zKE,zct (by simp;omega),zi,zi,zb c3];rfl
 by_cases c36:36<=x.PC/\x.PC<=38
 .rw [zw c36.1,zA,zw c36.2,zA,yR (by simp;omega),zKE];by_cases c37:x.PC=37
  .obtain ⟨v,v1,v2⟩:=zp8 x.G (W.p37 c37).1.ob.1;rw [ysg (.inr c37),zKE,zA,v1,zKE];dsimp only;rw [v2,zKE,yR (by simp;omega),zKE,zct (by simp;omega),zi,zb c37];have ea:x.Batch++x.Obj::yE x.G=x.Batch++[x.Obj]++yE x.G:=by simp
   rw [ea];rfl
  .rw [nog ⟨c3,c37⟩,zKE,zM,zct (by simp;omega),yf];rfl
 .rw [zi,zi,zc c3,zKI];by_cases h36:36<=x.PC
  .have h38: ¬x.PC<=38:=fun e=>c36 ⟨h36,e⟩;rw [zw h36,zA,zL h38,zM,nog (by omega),zKE,zM,zct (show x.Batch.length<4294967296 by omega)];rfl
  .rw [zL h36,zM,nog (by omega),zKE,zM,zct (show x.Batch.length<4294967296 by omega)];rfl
def owG (g:zJ):Int:=if g.Out=0/\(g.PC=1\/g.PC=2) then 1 else 0
def owW (x:zj):Int:=if x.PC=9 then 1 else if x.PC=6 then owG x.G else 0
def owX (x:ze):Int:=if x.PC=39 then 1 else if x.PC=3\/x.PC=37 then owG x.G else 0
theorem zFB (g:zJ):0<=owG g/\owG g<=1:=by unfold owG;split<;>decide
theorem zBp (x:zj):0<=owW x/\owW x<=1:=by
 unfold owW;split
 .decide
 split
 .exact zFB _
 .decide
theorem zBG (x:ze):0<=owX x/\owX x<=1:=by
 unfold owX;split
 .decide
 split
 .exact zFB _
 .decide
theorem YZ {g:zJ}(h:g.Out≠0\/(g.PC≠1/\g.PC≠2)):owG g=0:=by unfold owG;rw [zi]
theorem zwz {g:zJ}(h:g.Out=0) (h2:g.PC=1\/g.PC=2):owG g=1:=by unfold owG;rw [zb ⟨h,h2⟩]
theorem zGD (t:zn) (o:Int):((shade t o).2=false/\(shade t o).1=t)\/((shade t o).2=true/\¬(t.Marks|||bit o=t.Marks)/\(shade t o).1={t with Marks:=t.Marks|||bit o}):=by
 unfold shade;split
 .exact .inl ⟨rfl,rfl⟩
 split
 .rename_i h _;exact .inr ⟨rfl,h,rfl⟩
 .exact .inl ⟨rfl,rfl⟩
theorem zy7 {p:zd}{s:za}{gh:Gh}{g:zJ}(G:GX p s gh g) (g0:g.Out=0) (hw:0<=s.Work/\s.Work<=4294970000) :
  ((zG s g).1.T=s.T/\(zG s g).1.Work=s.Work+owG (zG s g).2-owG g) \/
  (¬(s.T.Marks|||bit g.Obj=s.T.Marks)/\(zG s g).1.T={s.T with Marks:=s.T.Marks|||bit g.Obj}/\(zG s g).1.Work=s.Work+owG (zG s g).2-owG g+1):=by
 have hpc:=G.pc;have hmd:=G.md;unfold zG;rw [zi];by_cases c7:g.PC=7
 .rw [zb c7];unfold zes;dsimp only;left;refine ⟨rfl,?_⟩;rw [YZ (g:=g) (by omega),YZ (by split<;>(dsimp only;omega))];omega
 rw [zc c7];by_cases c6:g.PC=6
 .rw [zb c6];left;refine ⟨rfl,?_⟩;rw [YZ (g:=g) (by omega),YZ (by show _\/((7:Int)≠1/\(7:Int)≠2);omega)];show s.Work=_;omega
 rw [zc c6];by_cases c5:g.PC=5
 .rw [zb c5];unfold znV zjt;dsimp only;left;refine ⟨rfl,?_⟩;rw [YZ (g:=g) (by omega),YZ (by (repeat' split)<;>(dsimp only;omega))];omega
 rw [zc c5];by_cases c4:g.PC=4
 .rw [zb c4];left;refine ⟨rfl,?_⟩;rw [YZ (g:=g) (by omega),YZ (by show _\/((5:Int)≠1/\(5:Int)≠2);omega)];show s.Work=_;omega
 rw [zc c4];by_cases c3:g.PC=3
 .rw [zb c3];unfold zn4 zjt;dsimp only;left;refine ⟨rfl,?_⟩;rw [YZ (g:=g) (by omega),YZ (by (repeat' split)<;>(dsimp only;omega))];omega
 rw [zc c3];by_cases c2:g.PC=2
 .rw [zb c2];left;refine ⟨rfl,?_⟩;rw [zwz g0 (.inr c2),YZ (by show (1:Int)≠0\/_;omega)];show wc (s.Work-1)=_;rw [yQ];omega
 rw [zc c2];by_cases c1:g.PC=1
 .rw [zb c1];unfold zn6;dsimp only;rw [zwz g0 (.inl c1)];rcases zGD s.T g.Obj with ⟨a,b⟩ | ⟨a,b,c⟩
  .left;refine ⟨b,?_⟩;rw [zb a,zwz (by dsimp only;exact g0) (.inr rfl)];omega
  .right;refine ⟨b,c,?_⟩;rw [zc (by rw [a];decide)];unfold zjt;rw [YZ (by (repeat' split)<;>(dsimp only;omega))];omega
 rw [zc c1];left;refine ⟨rfl,?_⟩;rw [YZ (g:=g) (by omega),zwz (by dsimp only;exact g0) (.inl rfl)];show wc (s.Work+1)=_;rw [yQ];omega
theorem zqh {t:zn}{o:Int}(h:yp t o=1):xj t o≠t:=by
 have hb:=(w8 t o).1 h;have hr:=Wu h;unfold xj;rw [zb h];intro e;have e:=congrArg zn.Black e;exact hb.2 (by rw [<-e];exact (yO _ hr o).2 (.inr rfl))
theorem zff {t:zn}{o:Int}(h: ¬(t.Marks|||bit o=t.Marks)):({t with Marks:=t.Marks|||bit o}:zn)≠t:=fun e=>h (congrArg zn.Marks e)
theorem zFm {p:zd}{nb:Nat}{s:za}{gh:Gh}{w:Int}{x:zj}(W:WX p s gh w x) (O:WOk p nb w x) (hw:0<=s.Work/\s.Work<=4294970000) (h8:x.PC=8->yp s.T x.Obj=1) {N C:List Int}
  (hT:(N=[]/\C=[]/\(zu s w x).1.T=s.T)\/(N=[x.G.Obj]/\C=[]/\x.PC=6/\¬(s.T.Marks|||bit x.G.Obj=s.T.Marks)/\(zu s w x).1.T={s.T with Marks:=s.T.Marks|||bit x.G.Obj})\/(N=[]/\C=[x.Obj]/\x.PC=8/\(zu s w x).1.T=xj s.T x.Obj)) :
  (zu s w x).1.Work=s.Work+owW (zu s w x).2-owW x+(N.length:Int)-(C.length:Int):=by
 have hpc:=O.pc;revert hT;have ob:∀y:zj,owW (zay s.P w y)=0:=fun y=>rfl;have ol:∀y:zj,owW (Yn s.P w y)=0:=fun y=>by unfold Yn;split<;>rfl
 have quiet:∀ {t:za}{y:zj},(N=[]/\C=[]/\t.T=s.T)\/(N=[x.G.Obj]/\C=[]/\x.PC=6/\¬(s.T.Marks|||bit x.G.Obj=s.T.Marks)/\t.T={s.T with Marks:=s.T.Marks|||bit x.G.Obj})\/(N=[]/\C=[x.Obj]/\x.PC=8/\t.T=xj s.T x.Obj) ->
   x.PC≠6->x.PC≠8->t.Work=s.Work+owW y-owW x->t.Work=s.Work+owW y-owW x+(N.length:Int)-(C.length:Int):=by
  rintro t y (⟨e1,e2,_⟩ | ⟨_,_,e,_⟩ | ⟨_,_,e,_⟩) h1 h2 h
  .rw [e1,e2];simp only [zLx];omega
  .omega
  .omega
 have o0:x.PC≠9->x.PC≠6->owW x=0:=fun h1 h2=>by unfold owW;rw [zc h1,zc h2]
 unfold zu;split
 .rename_i c;intro hT;refine quiet hT (by omega) (by omega) ?_;rw [o0 (by omega) (by omega)];show s.Work=_;dsimp only;split
  .show s.Work=s.Work+0-0;omega
  split
  .rw [ol];omega
  .rw [show owW {x with D:=(yj s.M x.D).2}=owW x from rfl,o0 (by omega) (by omega)];omega
 split
 .intro hT;refine quiet hT (by omega) (by omega) ?_;rw [o0 (by omega) (by omega)];show s.Work=_;dsimp only;split
  .rw [show ∀b c,owW {x with C:=c,Bin:=b,PC:=3}=0 from fun _ _=>rfl];omega
  split
  .rw [ob];omega
  .rw [show owW {x with C:=(zC s.M x.C).2}=owW x from rfl,o0 (by omega) (by omega)];omega
 split
 .intro hT;refine quiet hT (by omega) (by omega) ?_;rw [o0 (by omega) (by omega)];show s.Work=s.Work+0-0;omega
 split
 .intro hT;refine quiet hT (by omega) (by omega) ?_;rw [o0 (by omega) (by omega)];show s.Work=_;dsimp only;split
  .rw [show ∀c,owW {x with PC:=7,C:=c,Bin:=0}=0 from fun _=>rfl];omega
  .rw [show owW {x with C:=(zC s.M x.C).2}=owW x from rfl,o0 (by omega) (by omega)];omega
 split
 .intro hT;refine quiet hT (by omega) (by omega) ?_;rw [o0 (by omega) (by omega)];dsimp only;split
  .have:∀y,owW {x with Slot:=y,PC:=onW s y}=0:=fun y=>by
    unfold owW;rcases zlN s y with e | e<;>rw [zc (by dsimp only;omega),zc (by dsimp only;omega)]
   rw [this];omega
  .rw [show ∀y v,owW {x with Slot:=y,PC:=6,G:=YG 1 v w}=0 from fun _ _=>rfl];omega
 split
 .rename_i c;intro hT;obtain ⟨G,gm,gw,g0⟩:=W.p6 c;have e1:owW x=owG x.G:=by unfold owW;rw [zi,zb c]
  have e2:owW (if (zG s x.G).2.Out=1 then {x with G:=(zG s x.G).2,PC:=onW s x.Slot} else {x with G:=(zG s x.G).2})=owG (zG s x.G).2:=by
   split
   .rename_i o;rw [YZ (.inl (by omega))];unfold owW;rcases zlN s x.Slot with e | e<;>rw [zc (by dsimp only;omega),zc (by dsimp only;omega)]
   .unfold owW;rw [zc (by dsimp only;omega),zb c]
  dsimp only at hT ⊢;rw [e1,e2];rcases zy7 G g0 hw with ⟨a,b⟩ | ⟨a,b,d⟩
  .rcases hT with ⟨n1,n2,_⟩ | ⟨_,_,_,n3,n4⟩ | ⟨_,_,e,_⟩
   .rw [n1,n2,b];simp only [zLx];omega
   .exact zm (n4.symm.trans a) (zff n3)
   .omega
  .rcases hT with ⟨n1,n2,n3⟩ | ⟨n1,n2,_,n3,n4⟩ | ⟨_,_,e,_⟩
   .exact zm (b.symm.trans n3) (zff a)
   .rw [n1,n2,d];simp only [zLx,zKV];omega
   .omega
 split
 .intro hT;refine quiet hT (by omega) (by omega) ?_;rw [o0 (by omega) (by omega)];dsimp only;split
  .rw [ob];omega
  .rw [show ∀o l,owW {x with PC:=5,Obj:=o,Slot:=0,Batch:=l}=0 from fun _ _=>rfl];omega
 split
 .rename_i c;intro hT;have e0:owW x=0:=o0 (by omega) (by omega);rw [e0];rcases hT with ⟨_,_,e⟩ | ⟨_,_,e,_⟩ | ⟨n1,n2,_,_⟩
  .exact zm e (zqh (h8 c))
  .omega
  .rw [n1,n2];show s.Work=s.Work+1-0+0-1;omega
 split
 .rename_i c;intro hT;refine quiet hT (by omega) (by omega) ?_;have e1:owW x=1:=by unfold owW;rw [zb c]
  rw [e1];show wc (s.Work-1)=s.Work+0-1;rw [yQ];omega
 .intro hT;omega
theorem zHA {p:zd}{nb:Nat}{s:za}{gh:Gh}{m:Int}{x:ze}(W:MX p s gh x) (O:XOk p nb m x) (hw:0<=s.Work/\s.Work<=4294970000) (h8:x.PC=38->yp s.T x.Obj=1) {N C:List Int}
  (hT:(N=[]/\C=[]/\(zt s m x).1.T=s.T)\/(N=[x.G.Obj]/\C=[]/\(x.PC=3\/x.PC=37)/\¬(s.T.Marks|||bit x.G.Obj=s.T.Marks)/\(zt s m x).1.T={s.T with Marks:=s.T.Marks|||bit x.G.Obj})\/(N=[]/\C=[x.Obj]/\x.PC=38/\(zt s m x).1.T=xj s.T x.Obj) \/
   (N=[]/\C=[]/\x.PC=30/\ZB s.H s.P.Most=true/\(zt s m x).1.H=yP s.H/\(zt s m x).1.T=Y0 s.T (wc (s.H.Objs.length+1)))) :
  (zt s m x).1.Work=s.Work+owX (zt s m x).2-owX x+(N.length:Int)-(C.length:Int):=by
 have hpc:=O.pc;have hrt:=O.ret;have calm:∀ {r:za×ze},(N=[]/\C=[]/\r.1.T=s.T)\/(N=[x.G.Obj]/\C=[]/\(x.PC=3\/x.PC=37)/\¬(s.T.Marks|||bit x.G.Obj=s.T.Marks)/\r.1.T={s.T with Marks:=s.T.Marks|||bit x.G.Obj})\/(N=[]/\C=[x.Obj]/\x.PC=38/\r.1.T=xj s.T x.Obj) \/
   (N=[]/\C=[]/\x.PC=30/\ZB s.H s.P.Most=true/\r.1.H=yP s.H/\r.1.T=Y0 s.T (wc (s.H.Objs.length+1))) ->
   x.PC≠3->x.PC≠37->x.PC≠38->r.1.Work=s.Work+owX r.2-owX x->r.1.Work=s.Work+owX r.2-owX x+(N.length:Int)-(C.length:Int):=by
  rintro r (⟨e1,e2,_⟩ | ⟨_,_,e,_⟩ | ⟨_,_,e,_⟩ | ⟨e1,e2,_⟩) h1 h2 h3 h
  .rw [e1,e2];simp only [zLx];omega
  .omega
  .omega
  .rw [e1,e2];simp only [zLx];omega
 have o0:∀ {y:ze},y.PC≠39->y.PC≠3->y.PC≠37->owX y=0:=fun h1 h2 h3=>by unfold owX;rw [zc h1,zi]
 have og:∀(y:ze) (k a b:Int),owX {y with PC:=3,G:=YG k a b}=0:=fun y k a b=>by unfold owX;rw [zc (by dsimp only;omega),zb (.inl rfl)];exact YZ (.inr ⟨by show (0:Int)≠1;decide,by show (0:Int)≠2;decide⟩)
 have gq:∀(N C:List Int) (G:GX p s gh x.G) (g0:x.G.Out=0) (hT:(N=[]/\C=[]/\(zG s x.G).1.T=s.T)\/(N=[x.G.Obj]/\C=[]/\(x.PC=3\/x.PC=37)/\¬(s.T.Marks|||bit x.G.Obj=s.T.Marks)/\(zG s x.G).1.T={s.T with Marks:=s.T.Marks|||bit x.G.Obj})),
   (zG s x.G).1.Work=s.Work+owG (zG s x.G).2-owG x.G+(N.length:Int)-(C.length:Int):=by
  intro N C G g0 hT;rcases zy7 G g0 hw with ⟨a,b⟩ | ⟨a,b,d⟩
  .rcases hT with ⟨n1,n2,_⟩ | ⟨_,_,_,n3,n4⟩
   .rw [n1,n2,b];simp only [zLx];omega
   .exact zm (n4.symm.trans a) (zff n3)
  .rcases hT with ⟨n1,n2,n3⟩ | ⟨n1,n2,_,n3,n4⟩
   .exact zm (b.symm.trans n3) (zff a)
   .rw [n1,n2,d];simp only [zLx,zKV];omega
 revert hT;refine xZ (motive:=fun r=>((N=[]/\C=[]/\r.1.T=s.T)\/(N=[x.G.Obj]/\C=[]/\(x.PC=3\/x.PC=37)/\¬(s.T.Marks|||bit x.G.Obj=s.T.Marks)/\r.1.T={s.T with Marks:=s.T.Marks|||bit x.G.Obj})\/(N=[]/\C=[x.Obj]/\x.PC=38/\r.1.T=xj s.T x.Obj) \/
   (N=[]/\C=[]/\x.PC=30/\ZB s.H s.P.Most=true/\r.1.H=yP s.H/\r.1.T=Y0 s.T (wc (s.H.Objs.length+1)))) ->
   r.1.Work=s.Work+owX r.2-owX x+(N.length:Int)-(C.length:Int)) s m x ?_ ?_ ?_ ?_ ?_ ?_ ?_ ?_ ?_ ?_ ?_ ?_ ?_ ?_ ?_ ?_ ?_ ?_ ?_ ?_
 .intro c hT;refine calm hT (by omega) (by omega) (by omega) ?_;rw [o0 (y:=x) (by omega) (by omega) (by omega)];unfold mu0 zac
  repeat' split
  all_goals (rw [o0 (by (try dsimp only [setM]);omega) (by (try dsimp only [setM]);omega) (by (try dsimp only [setM]);omega)];dsimp only;omega)
 .intro c hT;refine calm hT (by omega) (by omega) (by omega) ?_;rw [o0 (y:=x) (by omega) (by omega) (by omega)];unfold mu1;dsimp only;split
  .have:=hrt (.inl c);rw [o0 (by dsimp only;omega) (by dsimp only;omega) (by dsimp only;omega)];omega
  .have e:∀l,owX {x with PC:=3,Buf:=l,G:=YG 2 (x.Buf.getD (x.Buf.length-1) 0) m}=0:=fun l=>og {x with Buf:=l} 2 _ m;rw [e];omega
 .intro c hT;refine calm hT (by omega) (by omega) (by omega) ?_;rw [o0 (y:=x) (by omega) (by omega) (by omega)];show s.Work=s.Work+0-0;omega
 .intro c hT;obtain ⟨G,gm,g0⟩:=W.p3 c;have e1:owX x=owG x.G:=by unfold owX;rw [zi,zb (.inl c)]
  unfold mu3 at hT ⊢;dsimp only at hT ⊢;have e2:owX (if (zG s x.G).2.Out=1 then {x with PC:=1,G:=(zG s x.G).2} else {x with G:=(zG s x.G).2})=owG (zG s x.G).2:=by
   split
   .rename_i o;rw [YZ (.inl (by omega)),o0 (by dsimp only;omega) (by dsimp only;omega) (by dsimp only;omega)]
   .unfold owX;rw [zc (by dsimp only;omega),zb (.inl c)]
  rw [e1,e2];refine gq N C G g0 ?_;rcases hT with h | h | ⟨_,_,e,_⟩ | ⟨_,_,e,_⟩
  .exact .inl h
  .exact .inr h
  .omega
  .omega
 .intro c hT;refine calm hT (by omega) (by omega) (by omega) ?_;rw [o0 (y:=x) (by omega) (by omega) (by omega)];show s.Work=s.Work+0-0;omega
 .intro c hT;refine calm hT (by omega) (by omega) (by omega) ?_;rw [o0 (y:=x) (by omega) (by omega) (by omega)];unfold zfC;dsimp only;split<;>(rw [o0 (by dsimp only [v8];omega) (by dsimp only [v8];omega) (by dsimp only [v8];omega)];omega)
 .intro c hT;refine calm hT (by omega) (by omega) (by omega) ?_;rw [o0 (y:=x) (by omega) (by omega) (by omega)];unfold zgk;dsimp only;split<;>(rw [o0 (by dsimp only;omega) (by dsimp only;omega) (by dsimp only;omega)];omega)
 .intro c hT;refine calm hT (by omega) (by omega) (by omega) ?_;rw [o0 (y:=x) (by omega) (by omega) (by omega)];unfold zfR;dsimp only;split<;>(rw [o0 (by dsimp only;omega) (by dsimp only;omega) (by dsimp only;omega)];omega)
 .intro c hT;refine calm hT (by omega) (by omega) (by omega) ?_;rw [o0 (y:=x) (by omega) (by omega) (by omega)];show s.Work=s.Work+0-0;omega
 .intro c hT;refine calm hT (by omega) (by omega) (by omega) ?_;rw [o0 (y:=x) (by omega) (by omega) (by omega)];unfold UN;split
  .split
   .show s.Work=s.Work+0-0;omega
   .show s.Work=s.Work+0-0;omega
  .show s.Work=s.Work+0-0;omega
 .intro c hT;refine calm hT (by omega) (by omega) (by omega) ?_;rw [o0 (y:=x) (by omega) (by omega) (by omega)];unfold zfT;dsimp only;split<;>(rw [o0 (by dsimp only;omega) (by dsimp only;omega) (by dsimp only;omega)];omega)
 .intro c hT;refine calm hT (by omega) (by omega) (by omega) ?_;rw [o0 (y:=x) (by omega) (by omega) (by omega)];unfold zfa;dsimp only;split
  .rw [o0 (by dsimp only;omega) (by dsimp only;omega) (by dsimp only;omega)];omega
  split<;>(rw [o0 (by dsimp only;omega) (by dsimp only;omega) (by dsimp only;omega)];omega)
 .intro c hT;refine calm hT (by omega) (by omega) (by omega) ?_;rw [o0 (y:=x) (by omega) (by omega) (by omega)];show s.Work=s.Work+0-0;omega
 .intro c hT;refine calm hT (by omega) (by omega) (by omega) ?_;rw [o0 (y:=x) (by omega) (by omega) (by omega)];unfold zgh;dsimp only;split<;>(rw [o0 (by dsimp only;omega) (by dsimp only;omega) (by dsimp only;omega)];omega)
 .intro c hT;refine calm hT (by omega) (by omega) (by omega) ?_;rw [o0 (y:=x) (by omega) (by omega) (by omega)];unfold zgj;dsimp only;split<;>(rw [o0 (by dsimp only;omega) (by dsimp only;omega) (by dsimp only;omega)];omega)
 .intro c hT;refine calm hT (by omega) (by omega) (by omega) ?_;rw [o0 (y:=x) (by omega) (by omega) (by omega)];unfold zfM;dsimp only;split
  .have:=zdI s (wc (x.Slot+1));rw [o0 (by dsimp only;omega) (by dsimp only;omega) (by dsimp only;omega)];omega
  .have e:∀y v,owX {x with Slot:=y,PC:=37,G:=YG 3 v m}=0:=fun y v=>by unfold owX;rw [zc (by dsimp only;omega),zb (.inr rfl)];exact YZ (.inr ⟨by show (0:Int)≠1;decide,by show (0:Int)≠2;decide⟩)
   rw [e];omega
 .intro c hT;obtain ⟨G,gm,g0⟩:=W.p37 c;have e1:owX x=owG x.G:=by unfold owX;rw [zi,zb (.inr c)]
  unfold za5 at hT ⊢;dsimp only at hT ⊢;have e2:owX (if (zG s x.G).2.Out=1 then {x with G:=(zG s x.G).2,PC:=onM s x.Slot} else {x with G:=(zG s x.G).2})=owG (zG s x.G).2:=by
   split
   .rename_i o;have:=zdI s x.Slot;rw [YZ (.inl (by omega)),o0 (by dsimp only;omega) (by dsimp only;omega) (by dsimp only;omega)]
   .unfold owX;rw [zc (by dsimp only;omega),zb (.inr c)]
  rw [e1,e2];refine gq N C G g0 ?_;rcases hT with h | h | ⟨_,_,e,_⟩ | ⟨_,_,e,_⟩
  .exact .inl h
  .exact .inr h
  .omega
  .omega
 .intro c hT;rw [o0 (y:=x) (by omega) (by omega) (by omega)];rcases hT with ⟨_,_,e⟩ | ⟨_,_,e,_⟩ | ⟨n1,n2,_,_⟩ | ⟨_,_,e,_⟩
  .exact zm e (zqh (h8 c))
  .omega
  .rw [n1,n2];show s.Work=s.Work+1-0+0-1;omega
  .omega
 .intro c hT;refine calm hT (by omega) (by omega) (by omega) ?_;have e1:owX x=1:=by unfold owX;rw [zb c]
  rw [e1];show wc (s.Work-1)=s.Work+0-1;rw [yQ];omega
 .intro hT;rcases hT with ⟨n1,n2,_⟩ | ⟨_,_,_,n3,n4⟩ | ⟨n1,n2,c,e⟩ | ⟨n1,n2,_⟩
  .rw [n1,n2];simp only [zLx];omega
  .exact zm n4.symm (zff n3)
  .exact zm e.symm (zqh (h8 c))
  .rw [n1,n2];simp only [zLx];omega
def U7 (s:za):Int:=(s.Ws.map owW).sum+(s.Ms.map owX).sum
theorem zAS:∀ {l:List Int},(∀v∈l,0<=v)->0<=l.sum
 | [],_=>by simp
 | a::l,h=>by
  have:=zAS (l:=l) (fun v hv=>h v (zKN _ hv));have:=h a (zK2 ..);rw [zLE];omega
theorem zJI (s:za):0<=U7 s:=by
 have h1:0<=(s.Ws.map owW).sum:=zAS (fun v hv=>by obtain ⟨x,_,rfl⟩:=zKT.1 hv;exact (zBp x).1);have h2:0<=(s.Ms.map owX).sum:=zAS (fun v hv=>by obtain ⟨x,_,rfl⟩:=zKT.1 hv;exact (zBG x).1);unfold U7;omega
theorem zBN {α:Type}{f:α->Int}{l:List α}{i:Nat}{x:α}(h:l[i]? =some x) (y:α):((l.set i y).map f).sum=(l.map f).sum-f x+f y:=by
 have hi:=(zKO.1 h).1;rw [List.map_set,zhE _ _ _ (by simpa using hi)];rw [zKH,zLe,h];rfl
structure EG (p:zd) (nb k:Nat) (s:za) (gh:Gh):Prop where
 G:FG p nb k s gh
 wk:s.Work=((ue p s gh).length:Int)+U7 s
 le:s.Work<=2*(k:Int)+100
theorem EG.work_nn {p:zd}{nb k:Nat}{s:za}{gh:Gh}(I:EG p nb k s gh):0<=s.Work:=by
 have:=I.wk;have:=zJI s;omega
theorem zeW (s:za):({xY s with Epoch:=s.Epoch,Flag:=s.Flag,Done:=s.Done,Restarts:=s.Restarts,D:=s.D}:za)=s:=by
 unfold xY
 repeat' split
 all_goals rfl
theorem FG.more {p:zd}{nb k:Nat}{s:za}{gh:Gh}(G:FG p nb k s gh):FG p nb (k+1) s gh:=⟨G.E,G.X.quiet G.E.S rfl,G.W,G.M,G.B,G.mrk,G.wob,G.buf,G.bk,G.ne⟩
theorem EG.more {p:zd}{nb k:Nat}{s:za}{gh:Gh}(I:EG p nb k s gh):EG p nb (k+1) s gh:=⟨I.G.more,I.wk,by have:=I.le;omega⟩
theorem EG.det {p:zd}(hp:zI p) {nb k:Nat}{s:za}{gh:Gh}(I:EG p nb k s gh):EG p nb (k+1) (xY s) gh/\zbd s (xY s):=by
 have hd:=zeW s;have eM:(xY s).M=s.M:=by conv=>rhs;rw [<-hd]
 have eB:(xY s).Bins=s.Bins:=by conv=>rhs;rw [<-hd]
 have eT:(xY s).T=s.T:=by conv=>rhs;rw [<-hd]
 have eH:(xY s).H=s.H:=by conv=>rhs;rw [<-hd]
 have eW:(xY s).Ws=s.Ws:=by conv=>rhs;rw [<-hd]
 have eX:(xY s).Ms=s.Ms:=by conv=>rhs;rw [<-hd]
 have eK:(xY s).Work=s.Work:=by conv=>rhs;rw [<-hd]
 have e:ue p (xY s) gh=ue p s gh:=by
  unfold ue;rw [eW,eX,ZK eB,wi (fun x _=>zd0 (x:=x) eM eB),wi (fun x _=>zil (x:=x) eB)]
 have e2:U7 (xY s)=U7 s:=by unfold U7;rw [eW,eX]
 exact ⟨⟨I.G.det hp hd,by rw [e,e2,eK];exact I.wk,by rw [eK];have:=I.le;omega⟩,.inl ⟨eT,by rw [eH]⟩⟩
theorem EG.worker {p:zd}(hp:zI p) {nb k:Nat}{s:za}{gh:Gh}(hk:k<2147480000) (I:EG p nb k s gh) {w:Int}(hw:1<=w/\w<=p.Workers) (hd:s.Done=false):∃gh',EG p nb (k+1) (zS s w) gh'/\zbd s (zS s w):=by
 obtain ⟨gh',G',F,x,hx,N,C,hbag,hT⟩:=I.G.worker hp (by omega) hw hd;have hwl:=I.G.E.wl;have ei:(((w-1).toNat:Nat):Int)+1=w:=by omega
 have hWX:=I.G.W _ x hx;have hWO:=I.G.E.W _ x hx;rw [ei] at hWX hWO;have h8:x.PC=8->yp s.T x.Obj=1:=fun e=>I.G.grey (zpH hx (by unfold z5;rw [Ve (.inr e)];simp));have hnn:=I.work_nn;have hle:=I.le;have hW:=zFm hWX hWO (by omega) h8 hT;have hlen:=hbag.length_eq;rw [zKS,zKS] at hlen;have eS:zS s w={(zu s w x).1 with Ws:=s.Ws.set (w-1).toNat (zu s w x).2}:=by
  unfold zS;rw [zc (by rw [hd];rintro (e | e | e)<;>first | cases e | omega),hx]
 have eK:(zS s w).Work=(zu s w x).1.Work:=by rw [eS]
 have eX:(zS s w).Ms=s.Ms:=by rw [eS];show (zu s w x).1.Ms=_;rw [zkv hWO]
 have eW:(zS s w).Ws=s.Ws.set (w-1).toNat (zu s w x).2:=by rw [eS]
 have ho:U7 (zS s w)=U7 s-owW x+owW (zu s w x).2:=by
  unfold U7;rw [eX,eW,zBN hx];omega
 have hwk:=I.wk;have hN:N.length<=1:=by rcases hT with ⟨e,_⟩ | ⟨e,_⟩ | ⟨e,_⟩<;>rw [e]<;>simp
 have o1:=zBp x;have o2:=zBp (zu s w x).2;refine ⟨gh',⟨G',by rw [eK,hW,ho];omega,?_⟩,F⟩;rw [eK,hW];omega
theorem EG.mutator {p:zd}(hp:zI p) {nb k:Nat}{s:za}{gh:Gh}(hk:k<2147480000) (I:EG p nb k s gh) {m:Int}(hm:1<=m/\m<=p.Mutators) (hd:s.Done=false):∃gh',EG p nb (k+1) (zO s m) gh'/\zbd s (zO s m):=by
 obtain ⟨gh',G',F,x,hx,N,C,hbag,hT⟩:=I.G.mutator hp (by omega) hm hd;have hml:=I.G.E.ml;have ei:(((m-1).toNat:Nat):Int)+1=m:=by omega
 have hMX:=I.G.M _ x hx;have hXO:=I.G.E.X _ x hx;rw [ei] at hXO;have h8:x.PC=38->yp s.T x.Obj=1:=fun e=>I.G.grey (zpB hx (by unfold yn;rw [zad (.inr e)];simp));have hnn:=I.work_nn;have hle:=I.le;have hW:=zHA (m:=m) hMX hXO (by omega) h8 hT;have hlen:=hbag.length_eq;rw [zKS,zKS] at hlen;have eS:zO s m={(zt s m x).1 with Ms:=s.Ms.set (m-1).toNat (zt s m x).2}:=by
  unfold zO;rw [zc (by rw [hd];rintro (e | e | e)<;>first | cases e | omega),hx]
 have eK:(zO s m).Work=(zt s m x).1.Work:=by rw [eS]
 have eW:(zO s m).Ws=s.Ws:=by rw [eS];show (zt s m x).1.Ws=_;rw [ziP]
 have eX:(zO s m).Ms=s.Ms.set (m-1).toNat (zt s m x).2:=by rw [eS]
 have ho:U7 (zO s m)=U7 s-owX x+owX (zt s m x).2:=by
  unfold U7;rw [eX,eW,zBN hx];omega
 have hwk:=I.wk;have hN:N.length<=1:=by rcases hT with ⟨e,_⟩ | ⟨e,_⟩ | ⟨e,_⟩ | ⟨e,_⟩<;>rw [e]<;>simp
 have o1:=zBG x;have o2:=zBG (zt s m x).2;refine ⟨gh',⟨G',by rw [eK,hW,ho];omega,?_⟩,F⟩;rw [eK,hW];omega
theorem ziw {s:za}(hd:s.Done=true) (j:Int):uW s j=s:=by
 unfold uW;split
 .unfold xY;rw [zb hd]
 split
 .unfold zS;rw [zb (.inl hd)]
 .unfold zO;rw [zb (.inl hd)]
theorem EG.next {p:zd}(hp:zI p) {nb k:Nat}{s:za}{gh:Gh}(hk:k<2147480000) (I:EG p nb k s gh) (j:Int):∃gh',EG p nb (k+1) (uW s j) gh'/\zbd s (uW s j):=by
 cases hd:s.Done with
 | true=>rw [ziw hd];exact ⟨gh,I.more,.inl ⟨rfl,rfl⟩⟩
 | false =>
  have hwl:=I.G.E.wl;have hml:=I.G.E.ml;unfold uW;split
  .exact ⟨gh,I.det hp⟩
  split
  .by_cases h1:1<=j
   .exact I.worker hp hk (by omega) hd
   .have:zS s j=s:=by unfold zS;rw [zb (.inr (.inl (by omega)))]
    rw [this];exact ⟨gh,I.more,.inl ⟨rfl,rfl⟩⟩
  .by_cases h1:1<=j-(s.Ws.length:Int)/\j-(s.Ws.length:Int)<=(s.Ms.length:Int)
   .exact I.mutator hp hk (by omega) hd
   .have:zO s (j-(s.Ws.length:Int))=s:=by unfold zO;rw [yf]
    rw [this];exact ⟨gh,I.more,.inl ⟨rfl,rfl⟩⟩
theorem zuA:∀(n:Nat) (l:List Int),l.Nodup->(∀o∈l,1<=o/\o<=(n:Int))->l.length<=n
 | 0,[],_,_=>zKJ _
 | 0,a::l,_,h=>by have:=h a (by simp);omega
 | n+1,l,hd,h=>by
  have ih:=zuA n (l.erase ((n+1:Nat):Int)) (hd.erase _) (fun o ho=>by
   have:=(hd.mem_erase_iff).1 ho;have h2:=h o this.2;have h3:=this.1;omega)
  rw [List.length_erase] at ih;split at ih<;>omega
theorem zDc {p:zd}(h:zI p) {nb k:Nat}{s:za}{gh:Gh}{own:List Int}(X:SX p nb s gh own k) (hnb:nb<=50) {N:Int}(hN:(nb:Int)<=N) (hN2:N<1000):zmr s.M (yr p) (zU p) N=some (gh.F,()):=by
 have hF:=Z8 h;have hE:=vd h;have hl:gh.F.length<nb\/gh.F.length=0:=by
  have:=X.L.all.length_eq;simp [zp4] at this;omega
 rw [zv7,zkO,zKE,zfS,zKE];obtain ⟨o,e,ho⟩:=vm (f:=zfb) (fun a=>∃x pre rest,gh.F=pre++rest/\a=(s.M,zU p,N,x,pre,())/\Chn s.M (zU p) nb x rest) (fun a=>gh.F.length-a.2.2.2.2.1.length) (fun o=>o= .brk (gh.F,())) (by
  rintro _ ⟨x,pre,rest,e,rfl,c⟩;rw [zrw,yq];cases rest with
  | nil =>
   have hx:x=0:=c;rw [zb hx];exact ⟨_,rfl,by rw [e,zKI]⟩
  | cons y l =>
   obtain ⟨c1,c2,c3,c4⟩:=c;have hlen:gh.F.length=pre.length+(l.length+1):=by rw [e,zKS,zKV]
   rw [zi,zq,zb (show (pre.length:Int)<(bif decide ((1000:Int)<N) then 1000 else N) by rw [zq,zi];omega),yR (by simp;omega),zKE,ya,zkO,zKE];refine ⟨_,rfl,⟨_,pre++[x],l,by rw [e,c1];simp,rfl,?_⟩,?_⟩
   .rw [c1];exact c4
   .show gh.F.length-(pre++[x]).length<gh.F.length-pre.length;rw [zKS,zMw];omega) (s.M,zU p,N,yG (ld s.M (yr p)),([]:List Int),()) ⟨_,[],gh.F,rfl,rfl,X.L.cF⟩ (by show gh.F.length-0<18446744073709551616;omega)
 subst ho;exact congrArg (fun o=>Option.bind o _) e
theorem zyM {α β:Type}(f:α->List β):∀(l:List α) (a:List β),l.foldl (fun r x=>r++f x) a=a++l.flatMap f
 | [],a=>by simp
 | x::l,a=>by rw [zLv,zyM f l,zLw,zKM]
theorem zEy {p:zd}(h:zI p) {k:Nat}{s:za}{gh:Gh}(G:FG p (yg p+1) k s gh):zch s=some (Z3 (gh.F.flatMap (yT s)),())/\(gh.F.flatMap (yT s)).length<=9:=by
 have hP:=G.E.S.P;have hbl:=G.E.S.bins;have hbp:=zej h;have hN:=G.E.H.n;have hn:=h.n;have hmo:=h.most;have hl9:(gh.F.flatMap (yT s)).length<=9:=by
  have hs:(gh.F.flatMap (yT s)).Sublist (ue p s gh):=(List.sublist_append_left _ _).trans (List.sublist_append_left _ _);have:=zuA s.H.Objs.length _ (G.B.nd.sublist hs) (fun o ho=>by
   have ho:=hs.subset ho;exact ⟨(Wu ((G.B.gr o).1 ho)).1,G.mrk o ((w8 _ _).1 ((G.B.gr o).1 ho)).1⟩)
  omega
 refine ⟨?_,hl9⟩;have hF:gh.F.length<1000:=by
  have:=G.X.L.all.length_eq;simp [zp4] at this;omega
 have hnode:∀y∈gh.F,1<=y/\y<((yg p+1:Nat):Int):=fun y hy=>zrI.1 (G.X.L.all.subset (zKZ _ (zKZ _ hy)));rw [zxc,zc2,zKE,zaX,zKE,hP];dsimp only;rw [zDc h G.X (by omega) (by omega) (by omega),zKE];dsimp only;obtain ⟨e,_⟩:=Yg (f:=Ua) (fun j r=>((gh.F.length:Int),j,s,r,gh.F,())) (fun r=>(r,())) gh.F (by omega) (fun r y=>r++yT s y) (fun i r=>r=(gh.F.take i).flatMap (yT s)) (s:=[]) rfl
  (fun i r y hy hi hr=>by
   have hm:=zKK hy;obtain ⟨b1,b2⟩:=zxo G (hnode y hm);have hsub:r.length+(yT s y).length<=9:=by
    have h1:r++yT s y=(gh.F.take (i+1)).flatMap (yT s):=by rw [hr,zLZ,hy];simp
    have h2:((gh.F.take (i+1)).flatMap (yT s)).Sublist (gh.F.flatMap (yT s)):=by
     conv=>rhs;rw [<-zMj (i+1) gh.F,zL3]
     exact List.sublist_append_left _ _
    have h3:=h2.length_le;rw [<-zKS,h1];omega
   have hb2:=(hnode y hm).2;refine ⟨by rw [hr,zLZ,hy];simp,?_⟩;show Ua ((gh.F.length:Int),(i:Int),s,r,gh.F,())=_;rw [ziM,zq,yf,vR,zKE,zLn,hy,zKE,zq,yf,b1,zKE,yR (by simp;omega),zKE,yV])
  (fun r hr=>by
   show Ua ((gh.F.length:Int),(gh.F.length:Int),s,r,gh.F,())=_;rw [ziM,zq,zi])
 rw [zyM,zKP] at e;rw [e,zKE];dsimp only;rw [zct (by omega)];rfl
theorem zDN {p:zd}(h:zI p) {nb k:Nat}{s:za}{gh:Gh}(G:FG p nb k s gh):∀(n i:Nat),i+n=s.Ws.length->zyh s n (i:Int)=some ((List.range' i n).map fun j:Nat=>(s.Ws[j]?).elim [] fun x=>Z3 (z5 s x++gh.D ((j:Int)+1)))
 | 0,i,_=>rfl
 | n+1,i,hi=>by
  have hx:=zKG (show i<s.Ws.length by omega);have ih:=zDN h G n (i+1) (by omega);rw [show ((i+1:Nat):Int)=(i:Int)+1 by omega] at ih;rw [zyh,zCR h G hx,zKE,ih,zKE,zMh,zLB,hx];rfl
theorem zDK {p:zd}(h:zI p) {nb k:Nat}{s:za}{gh:Gh}(G:FG p nb k s gh):∀(n i:Nat),i+n=s.Ms.length->zxT s n (i:Int)=some ((List.range' i n).map fun j:Nat=>(s.Ms[j]?).elim [] fun x=>Z3 (yn s x))
 | 0,i,_=>rfl
 | n+1,i,hi=>by
  have hx:=zKG (show i<s.Ms.length by omega);have ih:=zDK h G n (i+1) (by omega);rw [show ((i+1:Nat):Int)=(i:Int)+1 by omega] at ih;rw [zxT,zA9 h G hx,zKE,ih,zKE,zMh,zLB,hx];rfl
theorem zGx {a b:List Int}(ha:a.length<1000000) (hb:b.length<1000000):Xs [a,b]=some (a++b,()):=by
 rw [zf7];obtain ⟨e,_⟩:=Yg (f:=wm) (fun j (r:Int)=>([a,b],r,[a,b],2,j,())) (fun r=>([a,b],r,())) [a,b] (show 2<1000000 by decide) (fun r x=>r+(x.length:Int)) (fun i r=>0<=r/\r<=(i:Int)*1000000) (s:=0) ⟨by omega,by omega⟩
  (fun i r x hx hi hr=>by
   have hi:i<2:=hi;have hxl:x.length<1000000:=by
    rcases zKW.1 (zKK hx) with rfl | hx
    .exact ha
    .rw [zLr.1 hx];exact hb
   refine ⟨⟨by omega,by omega⟩,?_⟩;show wm ([a,b],r,[a,b],2,(i:Int),())=_;rw [WL,zq,yf,xz hx,zKE,ya (a:=r+(x.length:Int)) (by omega) (by omega),zq,zi,yV])
  (fun r hr=>by
   show wm ([a,b],r,[a,b],2,2,())=_;rw [WL];rfl)
 have e:yc wm ([a,b],0,[a,b],(([a,b]:List (List Int)).length:Int),0,())=some (.brk ([a,b],0+(a.length:Int)+(b.length:Int),())):=e;rw [e,zKE];dsimp only;have hg:zDV (0+(a.length:Int)+(b.length:Int))=some ([],()):=by
  rw [zGW];unfold zwb;rw [zw (by omega:(0:Int)<=0+(a.length:Int)+(b.length:Int)),zw (by omega:0+(a.length:Int)+(b.length:Int)<4294967296)];rfl
 rw [hg,zKE];obtain ⟨e,_⟩:=Yg (f:=we) (fun j (r:List Int)=>([a,b],2,j,r,())) (fun r=>(r,())) [a,b] (show 2<1000000 by decide) (fun r x=>r++x) (fun i r=>r.length<=i*1000000) (s:=[]) (by simp)
  (fun i r x hx hi hr=>by
   have hi:i<2:=hi;have hxl:x.length<1000000:=by
    rcases zKW.1 (zKK hx) with rfl | hx
    .exact ha
    .rw [zLr.1 hx];exact hb
   refine ⟨by rw [zKS];omega,?_⟩;show we ([a,b],2,(i:Int),r,())=_;rw [X9,zq,yf,xz hx,zKE,yR (by simp;omega),zKE,yV])
  (fun r hr=>by
   show we ([a,b],2,2,r,())=_;rw [X9];rfl)
 have e:yc we ([a,b],(([a,b]:List (List Int)).length:Int),0,([]:List Int),())=some (.brk ([]++a++b,())):=e;rw [e];rfl
theorem zIB {a b:List Int}(ha:a.length<1000000) (hb:b.length<1000000):zr8 a b=some (Z3 (a++b),()):=by
 rw [zAj,zGx ha hb,zKE,zy6 (by simp;omega)];rfl
theorem zyH:∀(ys:List (List Int)) (a:List Int),(a++ys.flatten).length<1000000->ZX zcZ ys (Z3 a,())=some (Z3 (a++ys.flatten),())
 | [],a,_=>by rw [ZX];simp
 | y::ys,a,hl=>by
  rw [List.flatten_cons,<-zKM] at hl ⊢;have hl2:=hl;rw [zKS,zKS] at hl2;rw [ZX,ztj,zIB (by rw [zGX];omega) (by omega),zKE,zKE];dsimp only;rw [zHi];exact zyH ys (a++y) hl
theorem zzi {α:Type}{f:α->List Int}(l:List α):List.Perm ((l.map fun x=>Z3 (f x)).flatten) (l.flatMap f):=by
 induction l with
 | nil=>exact zK8 _
 | cons a l ih =>
  rw [zLB,List.flatten_cons,zLw];exact (Uf _).append ih
theorem zGR {p:zd}(h:zI p) {k:Nat}{s:za}{gh:Gh}(G:FG p (yg p+1) k s gh):∃ys,zvw s=some ys/\List.Perm ys.flatten (ue p s gh):=by
 have hwl:=G.E.wl;have hwk:=h.wk;have hml:=G.E.ml;have hmt:=h.mt;refine ⟨_,by
  unfold zvw;rw [zw (show s.Ws.length<1000000 by omega),zw (show s.Ms.length<1000000 by omega),(zEy h G).1,Bool.and_self,zA,zKE,show (0:Int)=((0:Nat):Int) from rfl,zDN h G s.Ws.length 0 (by omega),zKE,zDK h G s.Ms.length 0 (by omega),zKE],?_⟩
 have eW:((List.range' 0 s.Ws.length).map fun j:Nat=>(s.Ws[j]?).elim [] fun x=>Z3 (z5 s x++gh.D ((j:Int)+1)))=(List.range s.Ws.length).map fun j:Nat=>Z3 ((s.Ws[j]?).elim [] fun x=>z5 s x++gh.D ((j:Int)+1)):=by
  rw [<-zL5];refine zMi (fun j hj=>?_);rw [zKG (zK7.1 hj)];rfl
 have eM:((List.range' 0 s.Ms.length).map fun j:Nat=>(s.Ms[j]?).elim [] fun x=>Z3 (yn s x))=(List.range s.Ms.length).map fun j:Nat=>Z3 ((s.Ms[j]?).elim [] (yn s)):=by
  rw [<-zL5];refine zMi (fun j hj=>?_);rw [zKG (zK7.1 hj)];rfl
 dsimp only;rw [eW,eM,List.flatten_cons,List.flatten_append];refine ((Uf _).append ((zzi _).append (zzi _))).trans ?_;rw [zwF (f:=yn s) s.Ms];have eW2:(List.range s.Ws.length).flatMap (fun j:Nat=>(s.Ws[j]?).elim [] fun x=>z5 s x++gh.D ((j:Int)+1))=(List.range s.Ws.length).flatMap (fun j:Nat=>(s.Ws[j]?).elim [] (z5 s)++gh.D ((j:Int)+1)) :=
  wi (fun j hj=>by rw [zKG (zK7.1 hj)];rfl)
 rw [eW2];unfold ue yL;have en:p.Workers.toNat=s.Ws.length:=by omega
 rw [en,zKM];refine zKR _ ?_;rw [<-zKM];refine zMc _ ?_;refine (zza (List.range s.Ws.length) (f:=fun i:Nat=>(s.Ws[i]?).elim [] (z5 s)) (g:=fun i:Nat=>gh.D ((i:Int)+1))).trans ?_;rw [zwF (f:=z5 s) s.Ws];exact zLs
theorem FG.bag9 {p:zd}(h:zI p) {nb k:Nat}{s:za}{gh:Gh}(G:FG p nb k s gh):(ue p s gh).length<=9/\∀o∈ue p s gh,1<=o/\o<=9:=by
 have hN:=G.E.H.n;have hn:=h.n;have hmo:=h.most;have hr:∀o∈ue p s gh,1<=o/\o<=(s.H.Objs.length:Int):=fun o ho=>⟨(Wu ((G.B.gr o).1 ho)).1,G.mrk o ((w8 _ _).1 ((G.B.gr o).1 ho)).1⟩
 have:=zuA s.H.Objs.length _ G.B.nd hr;exact ⟨by omega,fun o ho=>by have:=hr o ho;omega⟩
theorem zGF {p:zd}(h:zI p) {k:Nat}{s:za}{gh:Gh}(G:FG p (yg p+1) k s gh):zbz s=some (Z3 (ue p s gh),()):=by
 obtain ⟨ys,e,hp⟩:=zGR h G;have hl:=(G.bag9 h).1;rw [zxi,zzZ,zKE];have ej:zsG s.P.Workers s.P.Mutators s.P.Cap s.P.Buf s.P.Bin s.P.Most s.P.Price s.P.Limit s.P.H.Slots s.P.H.Objs s.P.Roots s.P.Regs s.P.Progs s.P.Picks s.H.Slots s.H.Objs s.M s.Bins s.T.Marks s.T.Black s.Work s.Epoch s.Flag s.Done s.Restarts s.Acks s.L.Scanned s.L.Spent s.L.Pool s.L.Bal s.Ws s.Ms s.D.PC s.D.I=some ys:=e;dsimp only;rw [ej,zKE];have:=zyH ys [] (by rw [zKP,hp.length_eq];omega);rw [zKP] at this;have this:ZX zcZ ys (([]:List Int),())=some (Z3 ys.flatten,()):=this;rw [this,zDt hp];rfl
def ZF (s:za):List zJ:=(s.Ws.filter (fun x=>decide (x.PC=6))).map (·.G)++(s.Ms.filter (fun x=>decide (x.PC=3\/x.PC=37))).map (·.G)
theorem zqr {α β:Type}(c:α->Bool) (f:α->β):∀(l:List α) (a:List β),l.foldl (fun r x=>bif c x then r++[f x] else r) a=a++(l.filter c).map f
 | [],a=>by simp
 | x::l,a=>by
  rw [zLv,zqr c f l,List.filter_cons];cases c x<;>simp
theorem zEZ (x:ze):Zc x=some (decide (x.PC=3\/x.PC=37),()):=by
 rw [ze9];by_cases c:x.PC=3
 .rw [zw c,zw (show x.PC=3\/x.PC=37 from .inl c)];rfl
 .rw [zL c];by_cases c2:x.PC=37
  .rw [zw c2,zw (show x.PC=3\/x.PC=37 from .inr c2)];rfl
  .rw [zL c2,zL (show ¬(x.PC=3\/x.PC=37) from fun e=>e.elim c c2)];rfl
theorem zq5 {s:za}(h1:s.Ws.length<=100) (h2:s.Ms.length<=100):zb6 s=some (ZF s,()):=by
 rw [zsu];obtain ⟨e,_⟩:=Yg (f:=Xu) (fun j r=>(s.Ws,(s.Ws.length:Int),j,s,r,())) (fun r=>(s,r,())) s.Ws (zMn h1 (by decide)) (fun r x=>bif decide (x.PC=6) then r++[x.G] else r) (fun i r=>r.length<=i) (s:=[]) (by simp)
  (fun i r x hx hi hr=>by
   refine ⟨?_,?_⟩
   .cases decide (x.PC=6)
    .show r.length<=_;omega
    .show (r++[x.G]).length<=_;simp;omega
   show Xu (s.Ws,(s.Ws.length:Int),(i:Int),s,r,())=_;rw [zeI,zq,yf,xz hx,zKE,yR (by simp;omega),zKE,yV];cases decide (x.PC=6)<;>rfl)
  (fun r hr=>by
   show Xu (s.Ws,(s.Ws.length:Int),(s.Ws.length:Int),s,r,())=_;rw [zeI,zq,zi])
 rw [zqr,zKP] at e;rw [e,zKE];dsimp only;have hfl:((s.Ws.filter (fun x:zj=>decide (x.PC=6))).map fun x:zj=>x.G).length<=s.Ws.length:=by rw [zLA];exact zLS _ _
 obtain ⟨e,_⟩:=Yg (f:=Xp) (fun j r=>(s.Ms,(s.Ms.length:Int),j,r,())) (fun r=>(r,())) s.Ms (zMn h2 (by decide)) (fun r x=>bif decide (x.PC=3\/x.PC=37) then r++[x.G] else r) (fun i r=>r.length<=i+100) (s:=(s.Ws.filter (fun x:zj=>decide (x.PC=6))).map fun x:zj=>x.G) (by omega)
  (fun i r x hx hi hr=>by
   refine ⟨?_,?_⟩
   .cases decide (x.PC=3\/x.PC=37)
    .show r.length<=_;omega
    .show (r++[x.G]).length<=_;simp;omega
   show Xp (s.Ms,(s.Ms.length:Int),(i:Int),r,())=_;rw [zeM,zq,yf,xz hx,zKE,zEZ,zKE,yR (by simp;omega),zKE,yV];dsimp only;cases decide (x.PC=3\/x.PC=37)<;>rfl)
  (fun r hr=>by
   show Xp (s.Ms,(s.Ms.length:Int),(s.Ms.length:Int),r,())=_;rw [zeM,zq,zi])
 rw [zqr] at e;rw [e];rfl
theorem zBY (g:zJ):owG g=0\/owG g=1:=by unfold owG;split<;>simp
theorem zFp (g:zJ):zox g=some (owG g,()):=by
 rw [zye,zlL];simp only [zq];unfold owG;by_cases c1:g.Out=0
 .rw [zb c1];by_cases c2:1<=g.PC
  .rw [zb c2];by_cases c3:g.PC<=2
   .rw [zb c3,zb ⟨c1,by omega⟩];rfl
   .rw [zc c3,zi];rfl
  .rw [zc c2,zi];rfl
 .rw [zc c1,zc (fun e=>c1 e.1)];rfl
theorem znE {α:Type}(f:α->Int):∀(l:List α) (a:Int),l.foldl (fun r x=>r+f x) a=a+(l.map f).sum
 | [],a=>by simp
 | x::l,a=>by rw [zLv,znE f l,zLB,zLE];omega
theorem zsL {α:Type}(c:α->Bool) (f g h:α->Int) (e:∀x,h x=(bif c x then f x else 0)+g x):∀l:List α,(l.map h).sum=((l.filter c).map f).sum+(l.map g).sum
 | []=>rfl
 | x::l=>by
  rw [zLB,zLE,zsL c f g h e l,List.filter_cons,e x,zLB,zLE];cases c x<;>simp<;>omega
theorem zGE (s:za):U7 s=((ZF s).map owG).sum+(s.Ws.map fun x=>if x.PC=9 then (1:Int) else 0).sum+(s.Ms.map fun x=>if x.PC=39 then (1:Int) else 0).sum:=by
 have hW:=zsL (fun x:zj=>decide (x.PC=6)) (fun x=>owG x.G) (fun x=>if x.PC=9 then (1:Int) else 0) owW (fun x=>by
  unfold owW;by_cases c:x.PC=9
  .rw [zb c,zb c,zL (show ¬x.PC=6 by omega)];rfl
  .rw [zc c,zc c];by_cases c6:x.PC=6
   .rw [zb c6,zw c6];show owG x.G=owG x.G+0;omega
   .rw [zc c6,zL c6];rfl) s.Ws
 have hX:=zsL (fun x:ze=>decide (x.PC=3\/x.PC=37)) (fun x=>owG x.G) (fun x=>if x.PC=39 then (1:Int) else 0) owX (fun x=>by
  unfold owX;by_cases c:x.PC=39
  .rw [zb c,zb c,zL (show ¬(x.PC=3\/x.PC=37) by omega)];rfl
  .rw [zc c,zc c];by_cases c6:x.PC=3\/x.PC=37
   .rw [zb c6,zw c6];show owG x.G=owG x.G+0;omega
   .rw [zc c6,zL c6];rfl) s.Ms
 unfold U7 ZF;rw [hW,hX,List.map_append,List.sum_append,List.map_map,List.map_map];have a1:(List.map (owG ∘ fun x:zj=>x.G) (s.Ws.filter fun x=>decide (x.PC=6)))=(s.Ws.filter fun x=>decide (x.PC=6)).map fun x=>owG x.G:=rfl;have a2:(List.map (owG ∘ fun x:ze=>x.G) (s.Ms.filter fun x=>decide (x.PC=3\/x.PC=37)))=(s.Ms.filter fun x=>decide (x.PC=3\/x.PC=37)).map fun x=>owG x.G:=rfl;rw [a1,a2];omega
theorem zGg {s:za}(h1:s.Ws.length<=100) (h2:s.Ms.length<=100):zoJ s=some (U7 s,()):=by
 rw [zx4,zq5 h1 h2,zKE];dsimp only;have hl:(ZF s).length<=200:=by
  unfold ZF;rw [zKS,zLA,zLA];have:=zLS (fun x:zj=>decide (x.PC=6)) s.Ws;have:=zLS (fun x:ze=>decide (x.PC=3\/x.PC=37)) s.Ms;omega
 obtain ⟨e,b1,b2⟩:=Yg (f:=zao) (fun j r=>(r,((ZF s).length:Int),j,s,ZF s,())) (fun r=>(r,s,())) (ZF s) (by omega) (fun r x=>r+owG x) (fun i r=>0<=r/\r<=(i:Int)) (s:=0) ⟨by omega,by omega⟩
  (fun i r x hx hi hr=>by
   have:=zBY x;refine ⟨⟨by omega,by omega⟩,?_⟩;show zao (r,((ZF s).length:Int),(i:Int),s,ZF s,())=_;rw [zku,zq,yf,vR,zKE,zLn,hx,zKE,zFp,zKE,yV,ya])
  (fun r hr=>by
   show zao (r,((ZF s).length:Int),((ZF s).length:Int),s,ZF s,())=_;rw [zku,zq,zi])
 rw [znE] at e b1 b2;rw [e,zKE];dsimp only;generalize hr0:0+((ZF s).map owG).sum=r0 at b1 b2;obtain ⟨e,b3,b4⟩:=Yg (f:=zak) (fun j r=>(r,s.Ws,(s.Ws.length:Int),j,s,())) (fun r=>(r,s,())) s.Ws (by omega) (fun (r:Int) x=>r+if x.PC=9 then 1 else 0) (fun i r=>0<=r/\r<=200+(i:Int)) (s:=r0) ⟨by omega,by omega⟩
  (fun i r x hx hi hr=>by
   refine ⟨⟨by split<;>omega,by split<;>omega⟩,?_⟩;show zak (r,s.Ws,(s.Ws.length:Int),(i:Int),s,())=_;rw [zkh,zq,yf,xz hx,zKE,yV,zq];by_cases c:x.PC=9
   .rw [zb c,zb c,ya]
   .rw [zc c,zc c,show r+0=r by omega])
  (fun r hr=>by
   show zak (r,s.Ws,(s.Ws.length:Int),(s.Ws.length:Int),s,())=_;rw [zkh,zq,zi])
 rw [znE] at e b3 b4;rw [e,zKE];dsimp only;generalize hr1:r0+(s.Ws.map fun x=>if x.PC=9 then (1:Int) else 0).sum=r1 at b3 b4;obtain ⟨e,_⟩:=Yg (f:=Uh) (fun j r=>(r,s.Ms,(s.Ms.length:Int),j,())) (fun r=>(r,())) s.Ms (by omega) (fun (r:Int) x=>r+if x.PC=39 then 1 else 0) (fun i r=>0<=r/\r<=400+(i:Int)) (s:=r1) ⟨by omega,by omega⟩
  (fun i r x hx hi hr=>by
   refine ⟨⟨by split<;>omega,by split<;>omega⟩,?_⟩;show Uh (r,s.Ms,(s.Ms.length:Int),(i:Int),())=_;rw [ziH,zq,yf,xz hx,zKE,yV,zq];by_cases c:x.PC=39
   .rw [zb c,zb c,ya]
   .rw [zc c,zc c,show r+0=r by omega])
  (fun r hr=>by
   show Uh (r,s.Ms,(s.Ms.length:Int),(s.Ms.length:Int),())=_;rw [ziH,zq,zi])
 rw [znE] at e;rw [e,zKE,zGE];dsimp only;rw [<-hr1,<-hr0];congr 2;omega
theorem zFO (s:za):0<=U7 s/\U7 s<=(s.Ws.length:Int)+(s.Ms.length:Int):=by
 have b:∀ {α:Type}(f:α->Int),(∀x,0<=f x/\f x<=1)->∀l:List α,0<=(l.map f).sum/\(l.map f).sum<=(l.length:Int):=fun f hf l=>by
  induction l with
  | nil=>exact ⟨zK6 _,zK6 _⟩
  | cons x l ih =>
   have:=hf x;rw [zLB,zLE,zKV];omega
 have h1:=b owW (fun x=>by
  have:=zBY x.G;unfold owW;split
  .omega
  .split<;>omega) s.Ws
 have h2:=b owX (fun x=>by
  have:=zBY x.G;unfold owX;split
  .omega
  .split<;>omega) s.Ms
 unfold U7;omega
inductive Reach (h:zr) (R:BitVec 64):Int->Prop
 | root (o:Int) (h1:zP R o=true) (h2:1<=o/\o<=(h.Objs.length:Int)):Reach h R o
 | step (o v:Int) (h1:Reach h R o) (h2:v∈zR h o) (h3:1<=v/\v<=(h.Objs.length:Int)):Reach h R v
theorem Reach.in {h:zr}{R:BitVec 64}{o:Int}(r:Reach h R o):1<=o/\o<=(h.Objs.length:Int):=by
 cases r with
 | root _ _ h2=>exact h2
 | step _ _ _ _ h3=>exact h3
theorem zEm:∀t:Fin 512,zqz 66 (BitVec.ofNat 64 t.1)=some (((List.range 9).filter fun i=>(BitVec.ofNat 64 t.1).getLsbD i).map fun i:Nat=>(i:Int)+1):=by decide +kernel
def YL (s:BitVec 64):List Int:=((List.range 9).filter fun i=>s.getLsbD i).map fun i:Nat=>(i:Int)+1
theorem zIN:∀t:Fin 512,Go.Lib.ctz 64 t.1<=64:=by decide +kernel
theorem zy1:∀(f:Nat) (s:BitVec 64),s.toNat<512->zal f s=zqz f s
 | 0,_,_=>rfl
 | f+1,s,h=>by
  simp only [zal,zqz];rw [zy1 f _ (by rw [zLK];exact zMn Nat.and_le_left h)];have:Go.Lib.ctz 64 s.toNat<=64:=zIN ⟨s.toNat,h⟩;have e:w64 (tz s+1)=((Go.Lib.ctz 64 s.toNat:Nat):Int)+1:=by
   unfold tz;exact ya
  rw [e]
theorem zF3 (s:BitVec 64) (o:Int):o∈YL s↔1<=o/\o<=9/\zP s o=true:=by
 unfold YL;rw [zKT];constructor
 .rintro ⟨i,hi,rfl⟩;obtain ⟨a,b⟩:=zL0.1 hi;have a:=zK7.1 a;exact ⟨by omega,by omega,(xL _ _).2 ⟨by omega,by omega,by rw [show ((i:Int)+1-1).toNat=i by omega];exact b⟩⟩
 .rintro ⟨a,b,c⟩;obtain ⟨_,_,d⟩:=(xL _ _).1 c;exact ⟨(o-1).toNat,zL0.2 ⟨zK7.2 (by omega),d⟩,by omega⟩
theorem zzl (s:BitVec 64):(YL s).length<=9:=by
 unfold YL;rw [zLA];exact zLM (zLS _ _) (by simp)
theorem zFR {s:BitVec 64}(h:∀o,zP s o=true->o<=9):zfE s=some (YL s,()):=by
 obtain ⟨t,rfl⟩:=zBO h;have e:zmE (BitVec.ofNat 64 t.1)=some (YL (BitVec.ofNat 64 t.1)):=by
  show zal 66 _=_;rw [zy1 66 _ (by simp;omega),zEm t];rfl
 have:=zzl (BitVec.ofNat 64 t.1);rw [zqZ,zra,zKE,e,zKE,zqq _ _ (by simp;omega)];rfl
theorem zs4 {α:Type}{l:List α}{n:Nat}{i:Int}(h:0<=i) (h1:i<l.length) (h2:i<n):zg2 l n i=some i.toNat:=by
 unfold zg2;simp [h,h1,h2]
def mt (met:List Int) (o:Int):Int:=met.getD (o-1).toNat 0
def Vu (met:List Int):Nat:=met.countP (fun x=>decide (x=0))
theorem zvJ {met:List Int}{o:Int}(h:1<=o/\o<=(met.length:Int)):met[(o-1).toNat]? =some (mt met o):=by
 have e:=zKG (show (o-1).toNat<met.length by omega);unfold mt;rw [zKH,e];rfl
theorem zlY {met:List Int}{o q x:Int}(h:1<=o/\o<=(met.length:Int)) (hq:1<=q):mt (met.set (o-1).toNat x) q=if q=o then x else mt met q:=by
 unfold mt;rw [zKH,zKH,zLt];by_cases e:q=o
 .subst e;rw [zb rfl,zb rfl,yf];rfl
 .rw [zi,zc e]
theorem zFE {met:List Int}{o x:Int}(h:1<=o/\o<=(met.length:Int)) (h0:mt met o=0) (hx:x≠0):Vu (met.set (o-1).toNat x)+1=Vu met:=by
 have hl:(o-1).toNat<met.length:=by omega
 have e:met[(o-1).toNat]'hl=0:=by
  have:=zvJ h;rw [h0,zKG hl] at this;exact Option.some.inj this
 have hm:(0:Int)∈met:=by rw [<-e];exact zK1 hl
 have hp:0<Vu met:=List.countP_pos_iff.2 ⟨0,hm,by simp⟩;unfold Vu at hp ⊢;rw [List.countP_set hl,e];simp [hx];omega
structure RI (h:zr) (R:BitVec 64) (met wait:List Int):Prop where
 len:met.length=64
 val:∀o,1<=o->0<=mt met o/\mt met o<=100-(Vu met:Int)
 rc:∀o,1<=o->0<mt met o->Reach h R o
 rt:∀o,zP R o=true->1<=o/\o<=(h.Objs.length:Int)->0<mt met o
 wt:∀o∈wait,(1<=o/\o<=(h.Objs.length:Int))/\0<mt met o
 cl:∀o,1<=o->0<mt met o->o∉wait->∀v∈zR h o,1<=v/\v<=(h.Objs.length:Int)->0<mt met v
 zl:Vu met<=64
theorem zHc (met:List Int):Vu met<=met.length:=List.countP_le_length
theorem RI.add {h:zr}{R:BitVec 64}{met wait:List Int}{o v:Int}(hn:h.Objs.length<=9) (I:RI h R met wait) (ho:o∈wait) (hv:v∈zR h o) (hr:1<=v/\v<=(h.Objs.length:Int)) (h0:mt met v=0) :
  RI h R (met.set (v-1).toNat (mt met o+1)) (wait++[v])/\Vu (met.set (v-1).toNat (mt met o+1))+1=Vu met:=by
 obtain ⟨ho1,ho2⟩:=I.wt o ho;have hlen:=I.len;have hvl:1<=v/\v<=(met.length:Int):=by omega
 have hz:=zFE (x:=mt met o+1) hvl h0 (by omega);have hval:=I.val o ho1.1;have hzl:=I.zl;have key:∀q,1<=q->0<mt met q->0<mt (met.set (v-1).toNat (mt met o+1)) q:=fun q hq hp=>by
  rw [zlY hvl hq];split<;>omega
 refine ⟨⟨by rw [zK3];exact hlen,fun q hq=>?_,fun q hq hp=>?_,fun q a b=>key q b.1 (I.rt q a b),fun q hq=>?_,fun q hq hp hw u hu hur=>?_,by omega⟩,hz⟩
 .have:=I.val q hq;rw [zlY hvl hq];split<;>omega
 .rw [zlY hvl hq] at hp;split at hp
  .rename_i e;subst e;exact .step o q (I.rc o ho1.1 ho2) hv hr
  .exact I.rc q hq hp
 .rcases zK4.1 hq with hq | hq
  .exact ⟨(I.wt q hq).1,key q (I.wt q hq).1.1 (I.wt q hq).2⟩
  .simp at hq;subst hq;refine ⟨hr,?_⟩;rw [zlY hvl hr.1,zb rfl];omega
 .have hw1:q∉wait:=fun e=>hw (zKZ _ e);have hw2:q≠v:=fun e=>hw (by rw [e];simp);rw [zlY hvl hq,zc hw2] at hp;exact key u hur.1 (I.cl q hq hp hw1 u hu hur)
theorem RI.rm {h:zr}{R:BitVec 64}{met:List Int}{o:Int}{w:List Int}(I:RI h R met (o::w)) (hd:∀v∈zR h o,1<=v/\v<=(h.Objs.length:Int)->0<mt met v):RI h R met w :=
 ⟨I.len,I.val,I.rc,I.rt,fun q hq=>I.wt q (zKN _ hq),fun q hq hp hw v hv hr=>by
  by_cases e:q=o
  .rw [e] at hv;exact hd v hv hr
  .exact I.cl q hq hp (fun h=>(zKW.1 h).elim e hw) v hv hr,I.zl⟩
theorem zEf {h:zr}{R:BitVec 64}(hn:h.Objs.length<=9) {o:Int}{w0:List Int}{a7:List Int}(hs:(zR h o).length<1000000):∀(n:Nat) (met added:List Int) (i:Nat),(zR h o).length-i=n->i<=(zR h o).length->RI h R met (o::w0++added)->(o::w0++added).length+Vu met<=200 ->
  (∀v∈(zR h o).take i,1<=v/\v<=(h.Objs.length:Int)->0<mt met v)->∀m,n<m ->
  ∃met' added',yY ug m (xK (h.Objs.length:Int),o,zR h o,((zR h o).length:Int),(i:Int),h,a7,met,o::w0++added,())=some (.brk (xK (h.Objs.length:Int),h,a7,met',o::w0++added',())) /\
   RI h R met' (o::w0++added')/\(o::w0++added').length+Vu met'=(o::w0++added).length+Vu met/\Vu met'<=Vu met/\(∀v∈zR h o,1<=v/\v<=(h.Objs.length:Int)->0<mt met' v):=by
 intro n
 induction n with
 | zero =>
  intro met added i hk hi I hz hd m hm;obtain ⟨m,rfl⟩:∃x,m=x+1:=⟨m-1,by omega⟩
  have e:i=(zR h o).length:=by omega
  subst e;rw [zMk] at hd;refine ⟨met,added,?_,I,rfl,zKJ _,hd⟩;rw [yY,XM,zq,zi];rfl
 | succ n ih =>
  intro met added i hk hi I hz hd m hm;obtain ⟨m,rfl⟩:∃x,m=x+1:=⟨m-1,by omega⟩
  have hx:=zKG (show i<(zR h o).length by omega);generalize hxv:(zR h o)[i]'(by omega)=v at hx;have hv:v∈zR h o:=zKK hx;have hlen:=I.len;have ho:=I.wt o (by simp);have hval:=I.val o ho.1.1;have htk:(zR h o).take (i+1)=(zR h o).take i++[v]:=by rw [zLZ,hx];rfl
  rw [yY,XM,zq,yf,xz hx,zKE,zln,zKE];have hb:=Yv hn v;unfold zP at hb;by_cases hr:1<=v/\v<=(h.Objs.length:Int)
  .have hb1:=hb.2 hr;dsimp only;rw [hb1,zA,ya (a:=v-1) (by omega) (by omega),zs4 (by omega) (by omega) (by omega),zKE,zvJ (by omega),zKE,zq];by_cases h0:mt met v=0
   .rw [zb h0,ya (a:=o-1) (by omega) (by omega),zs4 (by omega) (by omega) (by omega),zKE,zvJ (by omega),zKE,zKE,yR (by rw [zKS];show _+1<_;omega),zKE,ya (a:=(i:Int)+1) (by omega) (by omega),ya (a:=mt met o+1) (by omega) (by omega),zKE];obtain ⟨I',hz'⟩:=I.add hn (by simp) hv hr h0;dsimp only;rw [zKM] at I' ⊢;have hz2:(o::w0++(added++[v])).length=(o::w0++added).length+1:=by simp;omega
    obtain ⟨met',added',e1,e2,e3,e4,e5⟩:=ih (met.set (v-1).toNat (mt met o+1)) (added++[v]) (i+1) (by omega) (by omega) I' (by omega) (fun q hq hqr=>by
     rw [zlY (by omega) hqr.1];split
     .omega
     .rename_i hne;rw [htk] at hq;rcases zK4.1 hq with hq | hq
      .exact hd q hq hqr
      .simp at hq;exact zm hq hne) m (by omega)
    refine ⟨met',added',?_,e2,by omega,by omega,e5⟩;have:((i+1:Nat):Int)=(i:Int)+1:=by omega
    rw [<-this];exact e1
   .rw [zc h0,ya (a:=(i:Int)+1) (by omega) (by omega),zKE];have hp:0<mt met v:=by have:=I.val v hr.1;omega
    obtain ⟨met',added',e1,e2⟩:=ih met added (i+1) (by omega) (by omega) I hz (fun q hq hqr=>by
     rw [htk] at hq;rcases zK4.1 hq with hq | hq
     .exact hd q hq hqr
     .simp at hq;rw [hq];exact hp) m (by omega)
    refine ⟨met',added',?_,e2⟩;have:((i+1:Nat):Int)=(i:Int)+1:=by omega
    rw [<-this];exact e1
  .have hb1:(!(decide (xK (h.Objs.length:Int)&&&bit v=0#64)))=false:=by
    cases hc:(!(decide (xK (h.Objs.length:Int)&&&bit v=0#64))) with
    | false=>rfl
    | true=>exact zm (hb.1 hc) hr
   dsimp only;rw [hb1,zM,ya (a:=(i:Int)+1) (by omega) (by omega),zKE];obtain ⟨met',added',e1,e2⟩:=ih met added (i+1) (by omega) (by omega) I hz (fun q hq hqr=>by
    rw [htk] at hq;rcases zK4.1 hq with hq | hq
    .exact hd q hq hqr
    .simp at hq;rw [hq] at hqr;exact zm hqr hr) m (by omega)
   refine ⟨met',added',?_,e2⟩;have:((i+1:Nat):Int)=(i:Int)+1:=by omega
   rw [<-this];exact e1
theorem zqe {A B D:Type}{f:A->Option (yM A B D)}{x:A}{b:B}{n:Nat}(h:yY f n x=some (.brk b)) (hn:n<=vW):yc f x=some (.brk b):=by
 rw [Xe];have key:∀(n m:Nat) (x:A),yY f n x=some (.brk b)->n<=m->yY f m x=some (.brk b):=by
  intro n
  induction n with
  | zero=>intro m x h;cases h
  | succ n ih =>
   intro m x h hm;obtain ⟨m,rfl⟩:∃q,m=q+1:=⟨m-1,by omega⟩
   simp only [yY,zKQ] at h ⊢;obtain ⟨s,h1,h2⟩:=h;refine ⟨s,h1,?_⟩;cases s with
   | again y=>exact ih m y h2 (by omega)
   | brk b'=>exact h2
   | ret c=>exact h2
 exact key n vW x h hn
theorem zG9 {h:zr}{R:BitVec 64}(hn:h.Objs.length<=9) (hs:∀o,(zR h o).length<1000000) {a7:List Int}:∀(n:Nat) (met wait:List Int),wait.length+2*Vu met<=n->wait.length+Vu met<=200->RI h R met wait->∀m,n<m ->
  ∃met',yY Yp m (xK (h.Objs.length:Int),h,a7,met,wait,())=some (.brk (a7,met',()))/\RI h R met' []:=by
 intro n
 induction n with
 | zero =>
  intro met wait hz hz2 I m hm;obtain ⟨m,rfl⟩:∃x,m=x+1:=⟨m-1,by omega⟩
  have:wait=[]:=zLu (by omega);subst this;refine ⟨met,?_,I⟩;rw [yY,Zy,zq,zc (by simp)];rfl
 | succ n ih =>
  intro met wait hz hz2 I m hm;obtain ⟨m,rfl⟩:∃x,m=x+1:=⟨m-1,by omega⟩
  cases wait with
  | nil =>
   refine ⟨met,?_,I⟩;rw [yY,Zy,zq,zc (by simp)];rfl
  | cons o w =>
   have ho:=(I.wt o (by simp)).1;have hso:=hs o;have eo:=zKG (show (o-1).toNat<h.Objs.length by omega);have es:h.Objs[(o-1).toNat]'(by omega)=zR h o:=by unfold zR;rw [zKH,eo];rfl
   obtain ⟨met',added',e1,e2,e3,e4,e5⟩:=zEf (a7:=a7) hn (o:=o) (w0:=w) hso _ met [] 0 rfl (zLI _) (by simpa using I) (by simpa using hz2) (fun v hv=>by simp at hv) ((zR h o).length+1) (by omega);simp only [zKI,Int.natCast_zero] at e1 e3;have e1:yY ug ((zR h o).length+1) (xK (h.Objs.length:Int),o,zR h o,((zR h o).length:Int),0,h,a7,met,o::w,())=some (.brk (xK (h.Objs.length:Int),h,a7,met',o::w++added',())):=e1;have hidx:wg (o::w) 0=some 0:=by rw [vR (by omega) (by simp)];rfl
   rw [yY,Zy,zq,zb (by simp),hidx,zKE];simp only [zLJ,zKE,ztm,zKY,zM];rw [ya (a:=o-1) (by omega) (by omega),vX,eo,zKE,es,zqe e1 (by have:vW=18446744073709551616:=rfl;omega)];dsimp only [zKE];rw [zL7,zvi,zKE,zKE];dsimp only;rw [zL7] at e2;exact ih met' (w++added') (by simp at e3 hz ⊢;omega) (by simp at e3 hz2 ⊢;omega) (e2.rm e5) m (by omega)
theorem zIY (o:Int):mt (List.replicate 64 (0:Int)) o=0:=by
 unfold mt;rw [zKH,zL8];split<;>rfl
theorem zEc {h:zr}{a1:BitVec 64}{a5:List Int}:∀(n i:Nat) (l met:List Int),l.length-i=n->i<=l.length->l.length<1000000->(∀o∈l,1<=o/\o<=9)->met.length=64->(∀o,1<=o->mt met o=if o∈l.take i then 1 else 0)->∀m,n<m ->
  ∃met',yY Yq m (a1,(l.length:Int),(i:Int),h,a5,met,l,())=some (.brk (a1,h,a5,met',l,()))/\met'.length=64/\∀o,1<=o->mt met' o=if o∈l then 1 else 0:=by
 intro n
 induction n with
 | zero =>
  intro i l met hk hi hl hr hm ht m hm2;obtain ⟨m,rfl⟩:∃x,m=x+1:=⟨m-1,by omega⟩
  have e:i=l.length:=by omega
  subst e;rw [zMk] at ht;refine ⟨met,?_,hm,ht⟩;rw [yY,X8,zq,zi];rfl
 | succ n ih =>
  intro i l met hk hi hl hr hm ht m hm2;obtain ⟨m,rfl⟩:∃x,m=x+1:=⟨m-1,by omega⟩
  have hx:=zKG (show i<l.length by omega);generalize hxv:l[i]'(by omega)=v at hx;have hv:=hr v (zKK hx);have htk:l.take (i+1)=l.take i++[v]:=by rw [zLZ,hx];rfl
  rw [yY,X8,zq,yf,vR,zKE,zLn,hx,zKE,ya (a:=v-1) (by omega) (by omega),zs4 (by omega) (by omega) (by omega),zKE,ya (a:=(i:Int)+1) (by omega) (by omega),zKE];obtain ⟨met',e1,e2⟩:=ih (i+1) l (met.set (v-1).toNat 1) (by omega) (by omega) hl hr (by rw [zK3];exact hm) (fun o ho=>by
   rw [zlY (by omega) ho,ht o ho,htk];by_cases e:o=v
   .rw [zb e,zb (by rw [e];simp)]
   .rw [zc e];by_cases e2:o∈l.take i
    .rw [zb e2,zb (zKZ _ e2)]
    .rw [zc e2,zc (fun h=>(zK4.1 h).elim e2 (fun h=>e (by simpa using h)))]) m (by omega)
  refine ⟨met',?_,e2⟩;have:((i+1:Nat):Int)=(i:Int)+1:=by omega
  rw [<-this];exact e1
theorem zDd {met:List Int}(hl:met.length=64):∃S,zel met=some (S,())/\∀o,zP S o=true↔1<=o/\0<mt met o:=by
 rw [zrj,zq,zb hl];have key:=vm (f:=zbJ) (fun a=>∃(i:Nat) (S:BitVec 64),i<=64/\a=(S,met,(i:Int),())/\∀o,zP S o=true↔(1<=o/\o<=(i:Int))/\0<mt met o) (fun a=>64-a.2.2.1.toNat) (fun o=>∃S,o= .brk (S,())/\∀o,zP S o=true↔1<=o/\0<mt met o) (by
  rintro _ ⟨i,S,hi,rfl,hS⟩;rw [zol,zq];by_cases c:(i:Int)<64
  .have hx:=zvJ (met:=met) (o:=(i:Int)+1) (by omega);rw [show ((i:Int)+1-1).toNat=i by omega] at hx;rw [zb c,zs4 (by omega) (by omega) c,zKE,zLn,hx,zKE,zq,ya (a:=(i:Int)+1) (by omega) (by omega),zhS,zKE];by_cases hp:0<mt met ((i:Int)+1)
   .rw [zb hp];refine ⟨_,rfl,⟨i+1,_,by omega,rfl,fun o=>?_⟩,?_⟩
    .dsimp only;rw [yO _ (by omega),hS o];constructor
     .rintro (⟨a,b⟩ | rfl)
      .exact ⟨by omega,b⟩
      .exact ⟨by omega,hp⟩
     .rintro ⟨a,b⟩;by_cases e:o=(i:Int)+1
      .exact .inr e
      .exact .inl ⟨by omega,b⟩
    .show 64-((i:Int)+1).toNat<64-(i:Int).toNat;omega
   .rw [zc hp];refine ⟨_,rfl,⟨i+1,S,by omega,rfl,fun o=>?_⟩,?_⟩
    .rw [hS o];constructor
     .rintro ⟨a,b⟩;exact ⟨by omega,b⟩
     .rintro ⟨a,b⟩;by_cases e:o=(i:Int)+1
      .rw [e] at b;exact zm b hp
      .exact ⟨by omega,b⟩
    .show 64-((i:Int)+1).toNat<64-(i:Int).toNat;omega
  .rw [zc c];refine ⟨_,rfl,S,rfl,fun o=>?_⟩;rw [hS o];have hi:i=64:=by omega
   subst hi;constructor
   .rintro ⟨a,b⟩;exact ⟨a.1,b⟩
   .rintro ⟨a,b⟩;refine ⟨⟨a,?_⟩,b⟩;by_cases h:64<o
    .exfalso;unfold mt at b;rw [zKH,zLN (by omega)] at b;exact zm b (by show ¬(0:Int)<0;decide)
    .show o<=64;omega) (0#64,met,0,()) ⟨0,0#64,by omega,rfl,fun o=>⟨fun e=>zm e (Yj o),fun e=>by have:=e.1;omega⟩⟩ (by show 64-0<18446744073709551616;decide)
 obtain ⟨o,e,S,rfl,hS⟩:=key;refine ⟨S,?_,hS⟩;exact congrArg (fun o=>Option.bind o _) e
theorem zB0 {h:zr}(hn:h.Objs.length<=9) (hs:∀l∈h.Objs,l.length<1000000) (R:BitVec 64):∃S,Vj h R=some (S,())/\∀o,zP S o=true↔Reach h R o:=by
 have hso:∀o,(zR h o).length<1000000:=fun o=>by
  unfold zR;rw [zKH];cases hx:h.Objs[(o-1).toNat]? with
  | none=>show ([]:List Int).length<_;simp
  | some l=>exact hs l (zKK hx)
 have hF:=fun o=>Yv hn o;have hA:∀o,zP (R&&&xK (h.Objs.length:Int)) o=true↔zP R o=true/\1<=o/\o<=(h.Objs.length:Int):=fun o=>by rw [vr,hF]
 have h9:∀o,zP (R&&&xK (h.Objs.length:Int)) o=true->o<=9:=fun o e=>by have:=(hA o).1 e;omega
 have hw:=zF3 (R&&&xK (h.Objs.length:Int));have hwl:=zzl (R&&&xK (h.Objs.length:Int));generalize hwd:YL (R&&&xK (h.Objs.length:Int))=wait at hw hwl;obtain ⟨met,e1,m1,m2⟩:=zEc (h:=h) (a1:=xK (h.Objs.length:Int)) (a5:=List.replicate 64 (0:Int)) wait.length 0 wait (List.replicate 64 (0:Int)) rfl (zLI _) (by omega) (fun o ho=>by have:=(hw o).1 ho;omega) (by simp) (fun o _=>by rw [zIY];simp) (wait.length+1) (by omega);have hz:=zHc met;have I:RI h R met wait:=by
  refine ⟨m1,fun o ho=>?_,fun o ho hp=>?_,fun o ho hr=>?_,fun o ho=>?_,fun o ho hp hno=>?_,by omega⟩
  .rw [m2 o ho];split<;>omega
  .rw [m2 o ho] at hp;split at hp
   .rename_i hm;have a:=(hA o).1 ((hw o).1 hm).2.2;exact .root o a.1 a.2
   .omega
  .rw [m2 o hr.1,zb ((hw o).2 ⟨hr.1,by omega,(hA o).2 ⟨ho,hr⟩⟩)];decide
  .have a:=(hA o).1 ((hw o).1 ho).2.2;refine ⟨a.2,?_⟩;rw [m2 o a.2.1,zb ho];decide
  .rw [m2 o ho,zc hno] at hp;omega
 obtain ⟨met',e2,I'⟩:=zG9 (a7:=List.replicate 64 (0:Int)) hn hso (wait.length+2*Vu met) met wait (zKJ _) (by omega) I (wait.length+2*Vu met+1) (by omega);obtain ⟨S,e3,hS⟩:=zDd I'.len;refine ⟨S,?_,fun o=>?_⟩
 .have hrd:vW=18446744073709551616:=rfl;have ew:Y6 h R=some (met',()):=by
   rw [ze3,zeZ _ (by omega),zKE,zFR h9,zKE,hwd];refine (congrArg (fun o=>Option.bind o _) (zqe e1 (by omega))).trans ?_;rw [zKE];dsimp only;refine (congrArg (fun o=>Option.bind o _) (zqe e2 (by omega))).trans ?_;rw [zKE];dsimp only;rw [zq,zq,zq,zb I'.len,zb (by simp),zb I'.len]
  rw [zvv,ew,zKE,e3];rfl
 .rw [hS o];constructor
  .rintro ⟨a,b⟩;exact I'.rc o a b
  .intro r
   induction r with
   | root o h1 h2=>exact ⟨h2.1,I'.rt o h1 h2⟩
   | step o v _ h2 h3 ih=>exact ⟨h3.1,I'.cl o ih.1 ih.2 (by simp) v h2 h3⟩
def ztf (h:zr) (R:BitVec 64):BitVec 64:=match Vj h R with | some x=>x.1 | none=>0#64
theorem zvQ {h:zr}(hn:h.Objs.length<=9) (hs:∀l∈h.Objs,l.length<1000000) (R:BitVec 64):Vj h R=some (ztf h R,()):=by
 obtain ⟨S,e,_⟩:=zB0 hn hs R;unfold ztf;rw [e]
theorem zzk {h:zr}(hn:h.Objs.length<=9) (hs:∀l∈h.Objs,l.length<1000000) (R:BitVec 64) (o:Int):zP (ztf h R) o=true↔Reach h R o:=by
 obtain ⟨S,e,h2⟩:=zB0 hn hs R;unfold ztf;rw [e];exact h2 o
theorem zAG (s:BitVec 64):List.Pairwise (fun a b:Int=>a<=b) (YL s):=by
 unfold YL;rw [List.pairwise_map];refine (List.Pairwise.filter _ (List.pairwise_lt_range (n:=9))).imp (fun h=>?_);omega
theorem ztY (s:BitVec 64):(YL s).Nodup:=by
 unfold YL;have:List.Pairwise (fun a b:Int=>a≠b) (((List.range 9).filter fun i=>s.getLsbD i).map fun i:Nat=>(i:Int)+1):=by
  rw [List.pairwise_map];refine (List.Pairwise.filter _ (List.pairwise_lt_range (n:=9))).imp (fun h=>?_);omega
 exact this
theorem znB {s:BitVec 64}{o:Int}:o∈YL s↔zP s o=true/\o<=9:=by
 unfold YL;rw [zKT];constructor
 .rintro ⟨i,hi,rfl⟩;rw [zL0,zK7] at hi;refine ⟨(xL _ _).2 ⟨by omega,by omega,?_⟩,by omega⟩;rw [show ((i:Int)+1-1).toNat=i by omega];exact hi.2
 .rintro ⟨h,h9⟩;obtain ⟨a,b,c⟩:=(xL _ _).1 h;exact ⟨(o-1).toNat,zL0.2 ⟨zK7.2 (by omega),c⟩,by omega⟩
def za9 (s:za):BitVec 64:=s.T.Marks&&& ~~~s.T.Black
theorem znw {s:za}(o:Int):zP (za9 s) o=true↔yp s.T o=1:=by
 unfold za9;rw [vr,w8];constructor
 .rintro ⟨a,b⟩;have:=(xL _ _).1 a;exact ⟨a,(zcE _ ⟨this.1,this.2.1⟩).1 b⟩
 .rintro ⟨a,b⟩;have:=(xL _ _).1 a;exact ⟨a,(zcE _ ⟨this.1,this.2.1⟩).2 b⟩
theorem zHs {p:zd}(h:zI p) {nb k:Nat}{s:za}{gh:Gh}(G:FG p nb k s gh):List.Perm (ue p s gh) (YL (za9 s)):=by
 refine (List.perm_ext_iff_of_nodup G.B.nd (ztY _)).2 (fun o=>?_);rw [znB,znw,G.B.gr];exact ⟨fun e=>⟨e,((G.bag9 h).2 o ((G.B.gr o).2 e)).2⟩,fun e=>e.1⟩
theorem zH1 {p:zd}(h:zI p) {nb k:Nat}{s:za}{gh:Gh}(G:FG p nb k s gh):Z3 (ue p s gh)=YL (za9 s) :=
 zsM (zdV _) (zAG _) ((Uf _).trans (zHs h G))
theorem zBy {p:zd}(h:zI p) {k:Nat}{s:za}{gh:Gh}(G:FG p (yg p+1) k s gh):zbz s=some (YL (za9 s),()):=by
 rw [zGF h G,zH1 h G]
theorem zFV {p:zd}(h:zI p) {nb k:Nat}{s:za}{gh:Gh}(G:FG p nb k s gh):∀o,zP (za9 s) o=true->o<=9:=fun o ho=>((G.bag9 h).2 o ((G.B.gr o).2 ((znw o).1 ho))).2
theorem zFn {p:zd}(h:zI p) {nb k:Nat}{s:za}{gh:Gh}(G:FG p nb k s gh):cnt (za9 s)=((ue p s gh).length:Int):=by
 obtain ⟨e1,e2⟩:=zDx (G.bag9 h).2 G.B.nd;have:UY (ue p s gh)=za9 s:=zhQ (fun o=>by rw [e2,G.B.gr,znw]);rw [<-this,e1]
def atS (g:zJ) (a b v:Int):Int:=if g.Out=0 then (if a<=g.PC then (if g.PC<=b then v else 0) else 0) else 0
theorem zE7 (g:zJ):zoR g=some (atS g 0 1 g.Obj,()):=by
 rw [zxx,zlL];simp only [zq];unfold atS;split
 .split
  .split<;>rfl
  .rfl
 .rfl
def zhA (x:ze):Prop:=x.PC=21\/x.PC=22\/(x.Ret=22/\(x.PC=1\/x.PC=3))
instance (x:ze):Decidable (zhA x):=by unfold zhA;infer_instance
def zcN (a:BitVec 64) (x:ze):BitVec 64:=if zhA x then (a|||UY x.Buf)|||bit x.Old else a|||UY x.Buf
def ztd (s:za):BitVec 64:=s.Ms.foldl zcN ((ZF s).foldl (fun a g=>a|||bit (atS g 0 1 g.Obj)) 0#64)
theorem zsz {s:za}(hs:WI s) (h1:s.Ws.length<=100) (h2:s.Ms.length<=100):zae s=some (ztd s,()):=by
 rw [ztP,zq5 h1 h2,zKE];dsimp only;have hl:(ZF s).length<=200:=by
  unfold ZF;rw [zKS,zLA,zLA];have:=zLS (fun x:zj=>decide (x.PC=6)) s.Ws;have:=zLS (fun x:ze=>decide (x.PC=3\/x.PC=37)) s.Ms;omega
 obtain ⟨e,_⟩:=Yg (f:=Wf) (fun j r=>(r,((ZF s).length:Int),j,s,ZF s,())) (fun r=>(r,s,())) (ZF s) (by omega) (fun (a:BitVec 64) g=>a|||bit (atS g 0 1 g.Obj)) (fun _ _=>True) (s:=0#64) trivial
  (fun i r x hx hi hr=>by
   refine ⟨trivial,?_⟩;show Wf (r,((ZF s).length:Int),(i:Int),s,ZF s,())=_;rw [zf4,zq,yf,vR,zKE,zLn,hx,zKE,zE7,zKE,zhS,zKE,yV])
  (fun r hr=>by
   show Wf (r,((ZF s).length:Int),((ZF s).length:Int),s,ZF s,())=_;rw [zf4,zq,zi])
 rw [e,zKE];dsimp only;obtain ⟨e,_⟩:=Yg (f:=X6) (fun j r=>(r,s.Ms,(s.Ms.length:Int),j,())) (fun r=>(r,())) s.Ms (by omega) zcN (fun _ _=>True) (s:=(ZF s).foldl (fun (a:BitVec 64) g=>a|||bit (atS g 0 1 g.Obj)) 0#64) trivial
  (fun i r x hx hi hr=>by
   refine ⟨trivial,?_⟩;show X6 (r,s.Ms,(s.Ms.length:Int),(i:Int),())=_;rw [zf6,zq,yf,xz hx,zKE,zB8 (hs.mu x (zKK hx)).2.1,zKE,yV,zhS,zKE];simp only [zq];unfold zcN;by_cases c1:x.PC=21
   .rw [zb c1,zb (show zhA x from .inl c1)]
   rw [zc c1];by_cases c2:x.PC=22
   .rw [zb c2,zb (show zhA x from .inr (.inl c2))]
   rw [zc c2];by_cases c3:x.Ret=22
   .rw [zb c3];by_cases c4:x.PC=1
    .rw [zb c4,zb (show zhA x from .inr (.inr ⟨c3,.inl c4⟩))]
    rw [zc c4];by_cases c5:x.PC=3
    .rw [zb c5,zb (show zhA x from .inr (.inr ⟨c3,.inr c5⟩))]
    .rw [zc c5,zc (show ¬zhA x by unfold zhA;omega)]
   .rw [zc c3,zc (show ¬zhA x by unfold zhA;omega)])
  (fun r hr=>by
   show X6 (r,s.Ms,(s.Ms.length:Int),(s.Ms.length:Int),())=_;rw [zf6,zq,zi])
 rw [e];rfl
instance:DecidableEq zn:=fun a b=>if h:a.Marks=b.Marks/\a.Black=b.Black then isTrue (by cases a;cases b;simp_all) else isFalse (fun e=>h (by rw [e];exact ⟨rfl,rfl⟩))
theorem zte (a b:zn):((decide (a.Marks=b.Marks))&&(decide (a.Black=b.Black)))=decide (a=b):=by
 rw [Bool.eq_iff_iff];simp only [zKF,decide_eq_true_eq];constructor
 .rintro ⟨h1,h2⟩;cases a;cases b;simp_all
 .intro h;rw [h];exact ⟨rfl,rfl⟩
def Zr (t:zn) (o:Int):zn×Bool:=if (shade t o).2=true then (xj (shade t o).1 o,decide (yp (shade t o).1 o=1)) else (t,false)
theorem zCD (t:zn) (o:Int):zcg t o=some ((Zr t o).1,(Zr t o).2,()):=by
 rw [zn9,zky,zKE];unfold Zr;dsimp only;cases hs:(shade t o).2 with
 | false=>rw [zc (by simp)];rfl
 | true=>rw [zKY,zM,zjn,zb rfl];rfl
def zb1 (a b:zn) (o:Int):Option (Int×Int) :=
 if (shade a o).2=true/\(shade a o).1=b then some (1,o) else if yp a o=1/\xj a o=b then some (2,o) else if (Zr a o).2=true/\(Zr a o).1=b then some (3,o) else none
def vo (a b:zn):Int×Int:=if a=b then (0,0) else ((List.range 64).findSome? fun i:Nat=>zb1 a b ((i:Int)+1)).getD (-1,0)
theorem zzx (a b:zn) (i:Int) (hi:0<=i/\i<64):yc uD (i,1,i,a,b,())=some (match zb1 a b (i+1) with | some r=>.ret (r.1,r.2,()) | none=>.brk (i,a,b,())):=by
 have w1:w64 (i+1)=i+1:=ya;have s1:uD (i,1,i,a,b,())=if (shade a (i+1)).2=true/\(shade a (i+1)).1=b then some (.ret (1,i+1,())) else some (.again (i,2,i,a,b,())):=by
  rw [WC];simp only [zq,zte,w1];rw [zb (by decide),zc (by decide),zc (by decide),zb trivial,zky,zKE,ya (a:=1+1) (by decide) (by decide)];dsimp only;cases hs:(shade a (i+1)).2 with
  | false=>simp
  | true =>
   rw [zA];by_cases e:(shade a (i+1)).1=b
   .rw [zb e,zb ⟨rfl,e⟩]
   .rw [zc e,zc (fun h=>e h.2)];rfl
 have s2:uD (i,2,i,a,b,())=if yp a (i+1)=1/\xj a (i+1)=b then some (.ret (2,i+1,())) else some (.again (i,3,i,a,b,())):=by
  rw [WC];simp only [zq,zte,w1];rw [zb (by decide),zc (by decide),zb trivial,zjn,zKE,ya (a:=2+1) (by decide) (by decide)];dsimp only;rw [zq];by_cases h:yp a (i+1)=1
  .rw [zb h];by_cases e:xj a (i+1)=b
   .rw [zb e,zb ⟨h,e⟩]
   .rw [zc e,zc (fun h=>e h.2)];rfl
  .rw [zc h,zc (fun e=>h e.1)];rfl
 have s3:uD (i,3,i,a,b,())=if (Zr a (i+1)).2=true/\(Zr a (i+1)).1=b then some (.ret (3,i+1,())) else some (.again (i,4,i,a,b,())):=by
  rw [WC];simp only [zq,zte,w1];rw [zb (by decide),zb trivial,zCD,zKE,ya (a:=3+1) (by decide) (by decide)];dsimp only;cases hs:(Zr a (i+1)).2 with
  | false=>simp
  | true =>
   rw [zA];by_cases e:(Zr a (i+1)).1=b
   .rw [zb e,zb ⟨rfl,e⟩]
   .rw [zc e,zc (fun h=>e h.2)];rfl
 have s4:uD (i,4,i,a,b,())=some (.brk (i,a,b,())):=by
  rw [WC,zq,zc (by decide)]
 rw [Xe];show yY uD (18446744073709551612+1+1+1+1) (i,1,i,a,b,())=_;unfold zb1;rw [yY,s1];by_cases c1:(shade a (i+1)).2=true/\(shade a (i+1)).1=b
 .rw [zb c1,zb c1];rfl
 rw [zc c1,zc c1,zKE];dsimp only;rw [yY,s2];by_cases c2:yp a (i+1)=1/\xj a (i+1)=b
 .rw [zb c2,zb c2];rfl
 rw [zc c2,zc c2,zKE];dsimp only;rw [yY,s3];by_cases c3:(Zr a (i+1)).2=true/\(Zr a (i+1)).1=b
 .rw [zb c3,zb c3];rfl
 rw [zc c3,zc c3,zKE];dsimp only;rw [yY,s4];rfl
theorem zAq (a b:zn):zhU a b=some ((vo a b).1,(vo a b).2,()):=by
 rw [ztl,zte,zq];unfold vo;by_cases h:a=b
 .rw [zb h,zb h]
 rw [zc h,zc h];have key:∀(n k:Nat),64-k=n->k<=64->∀m,n<m->yY zdr m ((k:Int),a,b,())=some (match (List.range' k n).findSome? fun i:Nat=>zb1 a b ((i:Int)+1) with | some r=>.ret (r.1,r.2,()) | none=>.brk ()):=by
  intro n
  induction n with
  | zero =>
   intro k hk hk2 m hm;obtain ⟨m,rfl⟩:∃x,m=x+1:=⟨m-1,by omega⟩
   rw [yY,zfP,zq,zi];rfl
  | succ n ih =>
   intro k hk hk2 m hm;obtain ⟨m,rfl⟩:∃x,m=x+1:=⟨m-1,by omega⟩
   rw [yY,zfP,zq,yf,zzx a b (k:Int) (by omega),zMh,List.findSome?_cons];cases hk3:zb1 a b ((k:Int)+1) with
   | some r=>rfl
   | none =>
    have:=ih (k+1) (by omega) (by omega) m (by omega);rw [show ((k+1:Nat):Int)=(k:Int)+1 by omega] at this;rw [zKE];dsimp only;rw [zKE];dsimp only;rw [ya (a:=(k:Int)+1) (by omega) (by omega)];exact this
 have:=key 64 0 rfl (by omega) vW (by have:vW=18446744073709551616:=rfl;omega);rw [Xe];refine (congrArg (fun o=>Option.bind o _) this).trans ?_;rw [zKE,zL5];cases (List.range' 0 64).findSome? fun i:Nat=>zb1 a b ((i:Int)+1)<;>rfl
theorem znz {α:Type}{f:Nat->Option α}{j:Nat}{r:α}:∀ {l:List Nat},j∈l->(∀i∈l,i≠j->f i=none)->f j=some r->l.findSome? f=some r
 | a::l,hj,h,hr=>by
  rw [List.findSome?_cons];by_cases e:a=j
  .rw [e,hr]
  .rw [h a (by simp) e];exact znz ((zKW.1 hj).resolve_left (fun h=>e h.symm)) (fun i hi=>h i (zKN _ hi)) hr
theorem zAW {t:zn}{o:Int}(ho:1<=o/\o<=64) (hm: ¬zP t.Marks o=true) (hb: ¬zP t.Black o=true):shade t o=({t with Marks:=t.Marks|||bit o},true):=by
 unfold shade;rw [zc ((uJ ho).2 hm),zb];unfold zP at hb;simpa using hb
theorem zc5 {t:zn}{o:Int}(h:(shade t o).2=true):(shade t o).1={t with Marks:=t.Marks|||bit o}/\t.Marks|||bit o≠t.Marks:=by
 unfold shade at h ⊢;split
 .rename_i e;rw [zb e] at h;cases h
 .rename_i e;rw [zc e] at h;split
  .exact ⟨rfl,e⟩
  .rename_i e2;rw [zc e2] at h;cases h
theorem zAl {m:BitVec 64}{o q:Int}(hq: ¬(m|||bit q=m)) (h:m|||bit o=m|||bit q):o=q:=by
 have hqr:1<=q/\q<=64:=by
  rcases Classical.em (1<=q/\q<=64) with h | h
  .exact h
  .exact zm (by unfold bit;rw [zc h,BitVec.or_zero]) hq
 have hor:1<=o/\o<=64:=by
  rcases Classical.em (1<=o/\o<=64) with h2 | h2
  .exact h2
  .exact zm (by rw [<-h];unfold bit;rw [zc h2,BitVec.or_zero]) hq
 have a:zP (m|||bit o) q=true:=by rw [h,yO _ hqr];exact .inr rfl
 rw [yO _ hor] at a;rcases a with a | a
 .exact zm a ((uJ hqr).1 hq)
 .exact a.symm
theorem zub {t:zn}{o:Int}(h:(Zr t o).2=true):(Zr t o).1.Black≠t.Black/\(Zr t o).1.Marks≠t.Marks:=by
 unfold Zr at h ⊢;by_cases hs:(shade t o).2=true
 .rw [zb hs] at h ⊢;obtain ⟨e,hne⟩:=zc5 hs;have h1:yp (shade t o).1 o=1:=by simpa using h
  have hr:1<=o/\o<=64:=by
   rcases Classical.em (1<=o/\o<=64) with h | h
   .exact h
   .exact zm (by unfold bit;rw [zc h,BitVec.or_zero]) hne
  have hb:=((w8 _ _).1 h1).2;dsimp only;unfold xj;rw [zb h1];rw [e] at hb ⊢;exact ⟨(uJ hr).2 hb,hne⟩
 .rw [zc hs] at h;cases h
theorem zsc (t:zn):vo t t=(0,0):=by unfold vo;rw [zb rfl]
theorem zzQ {t:zn}{o:Int}(ho:1<=o/\o<=64) (hm: ¬zP t.Marks o=true) (hb: ¬zP t.Black o=true):vo t {t with Marks:=t.Marks|||bit o}=(1,o):=by
 have hne:=(uJ ho).2 hm;have hs:=zAW ho hm hb;unfold vo;rw [zc (fun e=>hne (congrArg zn.Marks e).symm)];have hf:((List.range 64).findSome? fun i:Nat=>zb1 t ({t with Marks:=t.Marks|||bit o}) ((i:Int)+1))=some (1,o):=by
  refine znz (j:=(o-1).toNat) (zK7.2 (by omega)) (fun i _ hi=>?_) ?_
  .unfold zb1;rw [zc,zc,zc]
   .rintro ⟨a,b⟩;exact (zub a).1 (by rw [b])
   .rintro ⟨a,b⟩;have:=congrArg zn.Marks b;unfold xj at this;rw [zb a] at this;exact hne this.symm
   .rintro ⟨a,b⟩;obtain ⟨c,d⟩:=zc5 a;rw [c] at b;have:=zAl hne (congrArg zn.Marks b);omega
  .rw [show (((o-1).toNat:Nat):Int)+1=o by omega];unfold zb1;rw [zb ⟨by rw [hs],by rw [hs]⟩]
 rw [hf];rfl
theorem zBA {t:zn}{o:Int}(h:yp t o=1) (ho:1<=o/\o<=64):vo t {t with Black:=t.Black|||bit o}=(2,o):=by
 have hb:=((w8 _ _).1 h).2;have hne:=(uJ ho).2 hb;unfold vo;rw [zc (fun e=>hne (congrArg zn.Black e).symm)];have hf:((List.range 64).findSome? fun i:Nat=>zb1 t ({t with Black:=t.Black|||bit o}) ((i:Int)+1))=some (2,o):=by
  refine znz (j:=(o-1).toNat) (zK7.2 (by omega)) (fun i _ hi=>?_) ?_
  .unfold zb1;rw [zc,zc,zc]
   .rintro ⟨a,b⟩;exact (zub a).2 (by rw [b])
   .rintro ⟨a,b⟩;have:=congrArg zn.Black b;unfold xj at this;rw [zb a] at this;have:=zAl hne this;omega
   .rintro ⟨a,b⟩;obtain ⟨c,d⟩:=zc5 a;rw [c] at b;exact d (congrArg zn.Marks b)
  .rw [show (((o-1).toNat:Nat):Int)+1=o by omega];unfold zb1;rw [zc,zb]
   .refine ⟨h,?_⟩;unfold xj;rw [zb h]
   .rintro ⟨a,b⟩;obtain ⟨c,d⟩:=zc5 a;rw [c] at b;exact d (congrArg zn.Marks b)
 rw [hf];rfl
theorem zDj {l:List Int}{v:Int}(hv:1<=v/\v<=64):∀(a:BitVec 64),zP a v=true\/v∈l->zP (l.foldl (fun s o=>s|||bit o) a) v=true:=by
 induction l with
 | nil=>rintro a (h | h);exact h;cases h
 | cons x l ih =>
  rintro a h;refine ih _ ?_;rw [xq];rcases h with h | h
  .exact .inl (.inl h)
  .rcases zKW.1 h with rfl | h
   .exact .inl (.inr ((yO 0#64 hv v).2 (.inr rfl) |> fun h=>by simpa using h))
   .exact .inr h
theorem zze {v:Int}(hv:1<=v/\v<=64):∀(L:List (List Int)) (a:BitVec 64),(zP a v=true\/∃r∈L,v∈r)->zP (L.foldl (fun s l=>s|||UY l) a) v=true
 | [],a,h=>by
  rcases h with h | ⟨r,h,_⟩
  .exact h
  .cases h
 | r::L,a,h=>by
  refine zze hv L _ ?_;rw [xq];rcases h with h | ⟨q,h,hq⟩
  .exact .inl (.inl h)
  .rcases zKW.1 h with rfl | h
   .exact .inl (.inr (zDj hv _ (.inr hq)))
   .exact .inr ⟨q,h,hq⟩
def LvH (p:zd) (h:zr) (o:Int):Prop:=Reach p.H (uN p) o\/((p.H.Objs.length:Int)<o/\o<=(h.Objs.length:Int))
def VU (p:zd) (h:zr):Prop:=∀o v,LvH p h o->v∈zR h o->v=0\/LvH p h v
def We (p:zd) (h:zr) (r:List Int):Prop:=∀v∈r,v=0\/LvH p h v
theorem LvH.mono {p:zd}{h h':zr}(hl:h.Objs.length<=h'.Objs.length) {o:Int}(L:LvH p h o):LvH p h' o:=by
 rcases L with L | L
 .exact .inl L
 .exact .inr (by omega)
theorem LvH.inn {p:zd}{h:zr}(hn:(p.H.Objs.length:Int)<=(h.Objs.length:Int)) {o:Int}(L:LvH p h o):1<=o/\o<=(h.Objs.length:Int):=by
 rcases L with L | L
 .have:=L.in;omega
 .omega
theorem LvH.in {p:zd}(hp:zI p) {h:zr}(hn:(p.H.Objs.length:Int)<=(h.Objs.length:Int)) {o:Int}(L:LvH p h o):1<=o/\o<=(h.Objs.length:Int):=L.inn hn
theorem We.mono {p:zd}{h h':zr}(hl:h.Objs.length<=h'.Objs.length) {r:List Int}(R:We p h r):We p h' r:=fun v hv=>(R v hv).imp id (fun L=>L.mono hl)
theorem We.set {p:zd}{h:zr}{r:List Int}(R:We p h r) {v:Int}(hv:v=0\/LvH p h v) (i:Nat):We p h (r.set i v):=fun u hu=>by
 rcases zLo hu with h | rfl
 .exact R u h
 .exact hv
theorem We.reg {p:zd}{h:zr}{x:ze}(R:We p h x.Regs) (r:Int):wX x r=0\/LvH p h (wX x r):=by
 unfold wX;rw [zKH];cases hx:x.Regs[r.toNat]? with
 | none=>exact .inl rfl
 | some v=>exact R v (zKK hx)
theorem zkY {p:zd}{h:zr}(C:VU p h) {a:Int}(ha:a=0\/LvH p h a) (i:Int):zW h a i=0\/LvH p h (zW h a i):=by
 unfold zW;split
 .rename_i hs;simp only [yz,zKF,decide_eq_true_eq] at hs;have L:LvH p h a:=ha.resolve_left (by omega);rw [zKH];cases hx:(zR h a)[i.toNat]? with
  | none=>exact .inl rfl
  | some v=>exact C a v L (zKK hx)
 .exact .inl rfl
theorem zES {p:zd}{h:zr}(C:VU p h) {a i v:Int}(hv:v=0\/LvH p h v):VU p (xM h a i v):=by
 intro o w L hw;have hl:=VV h a i v;have L':LvH p h o:=L.mono (by omega);have up:∀ {u:Int},(u=0\/LvH p h u)->(u=0\/LvH p (xM h a i v) u):=fun hu=>hu.imp id (fun L=>L.mono (by omega));unfold xM at hw;split at hw
 .rename_i hs;obtain ⟨hs,_⟩:=hs;simp only [yz,zKF,decide_eq_true_eq] at hs;have hw:w∈(h.Objs.set (a-1).toNat ((zR h a).set i.toNat v)).getD (o-1).toNat []:=hw;rw [zu6 (by omega)] at hw;split at hw
  .rename_i e;have es:zR h a=zR h o:=by unfold zR;rw [e]
   rcases zLo hw with h1 | rfl
   .exact up (C o w L' (es▸h1))
   .exact up hv
  .exact up (C o w L' hw)
 .exact up (C o w L' hw)
theorem zCk {p:zd}{h:zr}(hn:(p.H.Objs.length:Int)<=(h.Objs.length:Int)) (C:VU p h):VU p (yP h):=by
 intro o w L hw;have hl:=ZN h;have hin:=L.inn (by omega);by_cases ho:o<=(h.Objs.length:Int)
 .have L':LvH p h o:=by
   rcases L with L | L
   .exact .inl L
   .exact .inr (by omega)
  have e:zR (yP h) o=zR h o:=by
   unfold zR yP;rw [zKH,zKH,zLb (by omega)]
  rw [e] at hw;exact (C o w L' hw).imp id (fun L=>L.mono (by omega))
 .have e:zR (yP h) o=List.replicate h.Slots.toNat 0:=by
   unfold zR yP;rw [zKH,zLg (by omega),show (o-1).toNat-h.Objs.length=0 by omega];rfl
  rw [e] at hw;exact .inl (zMu hw)
structure RgI (p:zd) (s:za):Prop where
 hp:VU p s.H
 rg:∀x∈s.Ms,We p s.H x.Regs
theorem zIJ {p:zd}{s:za}{m:Int}{x:ze}(hN:(p.H.Objs.length:Int)<=(s.H.Objs.length:Int)) (h9:s.H.Objs.length<1000000) (C:VU p s.H) (R:We p s.H x.Regs) :
  VU p (zt s m x).1.H/\We p (zt s m x).1.H (zt s m x).2.Regs/\s.H.Objs.length<=(zt s m x).1.H.Objs.length:=by
 have same:∀ {t:za}{y:ze},t.H=s.H->y.Regs=x.Regs->VU p t.H/\We p t.H y.Regs/\s.H.Objs.length<=t.H.Objs.length:=fun e1 e2=>by rw [e1,e2];exact ⟨C,R,zKJ _⟩
 refine xZ (motive:=fun r=>VU p r.1.H/\We p r.1.H r.2.Regs/\s.H.Objs.length<=r.1.H.Objs.length) s m x ?_ ?_ ?_ ?_ ?_ ?_ ?_ ?_ ?_ ?_ ?_ ?_ ?_ ?_ ?_ ?_ ?_ ?_ ?_ ?_
 .intro c;unfold mu0 zac;split
  .exact same rfl rfl
  split
  .exact same rfl rfl
  split
  .exact same rfl rfl
  split
  .exact same rfl rfl
  split
  .exact same rfl rfl
  split
  .exact ⟨C,R.set (R.reg _) _,zKJ _⟩
  .exact ⟨C,R.set (.inl rfl) _,zKJ _⟩
 .intro c;unfold mu1;split<;>exact same rfl rfl
 .intro c;unfold mu2;exact same rfl rfl
 .intro c;unfold mu3;refine same (by rw [uf]) ?_;dsimp only;split<;>rfl
 .intro c;unfold zkb;exact ⟨C,R.set (zkY C (R.reg _) _) _,zKJ _⟩
 .intro c;unfold zfC;refine same rfl ?_;dsimp only;split<;>rfl
 .intro c;unfold zgk;refine same rfl ?_;dsimp only;split<;>rfl
 .intro c;unfold zfR;refine same rfl ?_;dsimp only;split<;>rfl
 .intro c;unfold zhd;have hl:=VV s.H (wX x (opM s.P m x).A) (opM s.P m x).S (wX x (opM s.P m x).R);exact ⟨zES C (R.reg _),R.mono (by dsimp only;omega),by dsimp only;omega⟩
 .intro c;unfold UN;split
  .split
   .have hl:=ZN s.H;have w:wc ((s.H.Objs.length:Int)+1)=(s.H.Objs.length:Int)+1:=yQ;refine ⟨zCk hN C,?_,by dsimp only;omega⟩;refine We.set (R.mono (by dsimp only;omega)) (.inr (.inr ?_)) _;rw [w];exact ⟨by omega,by dsimp only;omega⟩
   .exact same rfl rfl
  .exact same rfl rfl
 .intro c;unfold zfT;refine same rfl ?_;dsimp only;split<;>rfl
 .intro c;unfold zfa;refine same rfl ?_;dsimp only;repeat' split
  all_goals rfl
 .intro c;unfold zjX;exact same rfl rfl
 .intro c;unfold zgh;refine same rfl ?_;dsimp only;split<;>rfl
 .intro c;unfold zgj;refine same rfl ?_;dsimp only;split<;>rfl
 .intro c;unfold zfM;refine same rfl ?_;dsimp only;split<;>rfl
 .intro c;unfold za5;refine same (by rw [uf]) ?_;dsimp only;split<;>rfl
 .intro c;unfold zg4;exact same rfl rfl
 .intro c;unfold zme;exact same rfl rfl
 .exact same rfl rfl
theorem zFS {p:zd}(hp:zI p) {s:za}{m:Int}{x:ze}(hn:HOk p s.H) (C:VU p s.H) (R:We p s.H x.Regs) :
  VU p (zt s m x).1.H/\We p (zt s m x).1.H (zt s m x).2.Regs/\s.H.Objs.length<=(zt s m x).1.H.Objs.length:=by
 have hN:=hn.n;have hM:=hp.most;have hn6:=hp.n;exact zIJ hN.1 (by omega) C R
theorem RgI.step {p:zd}{nb:Nat}(hp:zI p) {s:za}(E:EOk p nb s) (I:RgI p s) (m:Int):RgI p (zO s m):=by
 unfold zO;split
 .exact I
 cases hx:s.Ms[(m-1).toNat]? with
 | none=>exact I
 | some x =>
  obtain ⟨h1,h2,h3⟩:=zFS (m:=m) hp E.H I.hp (I.rg x (zKK hx));refine ⟨h1,fun y hy=>?_⟩;rcases zLo hy with hy | rfl
  .exact (I.rg y hy).mono h3
  .exact h2
theorem zJG {p:zd}(hp:zI p):RgI p (xF p):=by
 have hn:=hp.n;refine ⟨fun o v L hv=>?_,fun x hx v hv=>?_⟩
 .by_cases h0:v=0
  .exact .inl h0
  refine .inr (.inl ?_);rcases L with L | L
  .have r:=L;have ho:=r.in;have hm:zR p.H o∈p.H.Objs:=by
    unfold zR;rw [zKH,zKG (show (o-1).toNat<p.H.Objs.length by omega)];exact zK1 _
   have:=(hp.objs _ hm).2 v hv;exact .step o v r hv (by omega)
  .have:o<=(p.H.Objs.length:Int):=L.2;omega
 .have hx:x∈p.Regs.map vq:=hx;obtain ⟨r,hr,rfl⟩:=zKT.1 hx;have hv:v∈r:=hv;have:=(hp.reg r hr).2 v hv;by_cases h0:v=0
  .exact .inl h0
  exact .inr (.inl (.root v (zze (by omega) _ _ (.inr ⟨r,hr,hv⟩)) (by omega)))
def QL (p:zd) (h:zr) (v:Int):Prop:=v=0\/LvH p h v
theorem QL.mono {p:zd}{h h':zr}(hl:h.Objs.length<=h'.Objs.length) {v:Int}(q:QL p h v):QL p h' v:=q.imp id (fun L=>L.mono hl)
structure BN (p:zd) (s:za):Prop where
 rg:RgI p s
 mkd:∀o,zP s.T.Marks o=true->LvH p s.H o
 gw:∀x∈s.Ws,x.PC=6->QL p s.H x.G.Obj
 bq:∀x∈s.Ms,zsr (QL p s.H) x
theorem zsr.mono {Q Q':Int->Prop}(h:∀v,Q v->Q' v) {x:ze}(b:zsr Q x):zsr Q' x:=⟨fun v hv=>h v (b.1 v hv),h _ b.2.1,fun e=>h _ (b.2.2 e)⟩
theorem BN.same {p:zd}{s s':za}(B:BN p s) (eH:s'.H=s.H) (eT:s'.T=s.T) (eW:s'.Ws=s.Ws) (eX:s'.Ms=s.Ms):BN p s' :=
 ⟨⟨by rw [eH];exact B.rg.hp,by rw [eH,eX];exact B.rg.rg⟩,by rw [eH,eT];exact B.mkd,by rw [eH,eW];exact B.gw,by rw [eH,eX];exact B.bq⟩
theorem BN.held {p:zd}{nb k:Nat}{s:za}{gh:Gh}(B:BN p s) (G:FG p nb k s gh) {o:Int}(h:o∈ue p s gh):LvH p s.H o:=B.mkd o ((w8 _ _).1 ((G.B.gr o).1 h)).1
theorem zzp {s:za}{x:zj}(h:x.PC=5\/x.PC=6\/x.PC=8):x.Obj∈z5 s x:=by
 unfold z5 UH;refine zLd _ ?_;rw [zi,zi];by_cases h6:x.PC=6
 .rw [zi,zb h6];simp
 .rw [yf];simp
theorem zr2 {s:za}{x:ze}(h:x.PC=36\/x.PC=37\/x.PC=38):x.Obj∈yn s x:=by
 unfold yn zcf;refine zLd _ ?_;rw [zi];by_cases h6:x.PC=37
 .rw [zi,zb h6];simp
 .rw [yf];simp
theorem zGi {p:zd}{h:zr}{m:BitVec 64}{o:Int}(hm:∀q,zP m q=true->LvH p h q) (ho:LvH p h o):∀q,zP (m|||bit o) q=true->LvH p h q:=fun q hq=>(YB hq).elim (hm q) (fun e=>e▸ho)
theorem BN.worker {p:zd}(hp:zI p) {nb k:Nat}{s:za}{gh:Gh}(hk:k<4294960000) (B:BN p s) (G:FG p nb k s gh) {w:Int}(hw:1<=w/\w<=p.Workers) (hd:s.Done=false):BN p (zS s w):=by
 obtain ⟨gh',G',_,x,hx,N,C,_,hT⟩:=G.worker hp hk hw hd;have hwl:=G.E.wl;have hm:=zKK hx;have hf:=W3 G.E w;have eH:(zS s w).H=s.H:=by rw [hf]
 have eX:(zS s w).Ms=s.Ms:=by rw [hf]
 have e0: ¬(s.Done=true\/w<1\/(s.Ws.length:Int)<w):=by rw [hd];rintro (e | e | e)<;>first | cases e | omega
 have es:zS s w={(zu s w x).1 with Ws:=s.Ws.set (w-1).toNat (zu s w x).2}:=by unfold zS;rw [zc e0,hx]
 have eT:(zS s w).T=(zu s w x).1.T:=by rw [es]
 have eW:(zS s w).Ws=s.Ws.set (w-1).toNat (zu s w x).2:=by rw [es]
 have hi:=(zKO.1 hx).1;refine ⟨⟨by rw [eH];exact B.rg.hp,by rw [eH,eX];exact B.rg.rg⟩,?_,?_,by rw [eH,eX];exact B.bq⟩
 .rw [eH,eT];rcases hT with ⟨_,_,t⟩ | ⟨_,_,h6,_,t⟩ | ⟨_,_,_,t⟩
  .rw [t];exact B.mkd
  .rw [t];have hob:=((G.W _ x hx).p6 h6).1.ob;exact zGi B.mkd ((B.gw x hm h6).resolve_left (by omega))
  .rw [t,(zai s.T x.Obj).1];exact B.mkd
 .rw [eH,eW];intro y hy h6;rcases zLo hy with hy | rfl
  .exact B.gw y hy h6
  .rcases zvl s w x h6 with ⟨a,b⟩ | ⟨a,b⟩
   .rw [b];exact B.gw x hm a
   .rw [b];exact zkY B.rg.hp (.inr (B.held G (zpH hx (zzp (.inl a))))) _
theorem BN.mutator {p:zd}(hp:zI p) {nb k:Nat}{s:za}{gh:Gh}(hk:k<4294960000) (B:BN p s) (G:FG p nb k s gh) {m:Int}(hm:1<=m/\m<=p.Mutators) (hd:s.Done=false):BN p (zO s m):=by
 obtain ⟨gh',G',F,x,hx,N,C,_,hT⟩:=G.mutator hp hk hm hd;have hml:=G.E.ml;have hmem:=zKK hx;have hX:=G.E.X _ x hx;have e0: ¬(s.Done=true\/m<1\/(s.Ms.length:Int)<m):=by rw [hd];rintro (e | e | e)<;>first | cases e | omega
 have es:zO s m={(zt s m x).1 with Ms:=s.Ms.set (m-1).toNat (zt s m x).2}:=by unfold zO;rw [zc e0,hx]
 have hR:=B.rg.step hp G.E m;have hrg:=zFS (m:=m) hp G.E.H B.rg.hp (B.rg.rg x hmem);have eW:(zO s m).Ws=s.Ws:=by rw [es];show (zt s m x).1.Ws=_;rw [ziP]
 have eT:(zO s m).T=(zt s m x).1.T:=by rw [es]
 have eH:(zO s m).H=(zt s m x).1.H:=by rw [es]
 have eM:(zO s m).Ms=s.Ms.set (m-1).toNat (zt s m x).2:=by rw [es]
 have up:∀ {v:Int},LvH p s.H v->LvH p (zt s m x).1.H v:=fun L=>L.mono hrg.2.2;have uq:∀v,QL p s.H v->QL p (zt s m x).1.H v:=fun v q=>q.mono hrg.2.2;refine ⟨hR,?_,?_,?_⟩
 .rw [eH,eT];rcases hT with ⟨_,_,t⟩ | ⟨_,_,h3,_,t⟩ | ⟨_,_,_,t⟩ | ⟨_,_,_,_,t3,t4⟩
  .rw [t];exact fun o ho=>up (B.mkd o ho)
  .rw [t];have hob:1<=x.G.Obj:=by
    rcases h3 with h | h
    .exact ((G.M _ x hx).p3 h).1.ob.1
    .exact ((G.M _ x hx).p37 h).1.ob.1
   exact zGi (fun o ho=>up (B.mkd o ho)) (up (((B.bq x hmem).2.2 h3).resolve_left (by omega)))
  .rw [t,(zai s.T x.Obj).1];exact fun o ho=>up (B.mkd o ho)
  .intro o ho;have hF:=(G.tints F).1;have hle:=hF o (by rw [eT];exact ho);rw [eH] at hle;by_cases hl:o<=(p.H.Objs.length:Int)
   .rw [t4] at ho;have hN:=G.E.H.n;have hM0:=hp.most;have hn6:=hp.n;have nm: ¬zP s.T.Marks ((s.H.Objs.length:Int)+1)=true:=fun e=>by have:=G.mrk _ e;omega
    have nb': ¬zP s.T.Black ((s.H.Objs.length:Int)+1)=true:=fun e=>nm (G.B.blk _ e);rw [yQ,zev (by omega) nm nb'] at ho;rcases YB ho with ho | rfl
    .exact up (B.mkd o ho)
    .omega
   .exact .inr ⟨by omega,hle⟩
 .rw [eH,eW];exact fun y hy h6=>uq _ (B.gw y hy h6)
 .rw [eH,eM];intro y hy;have em:(((m-1).toNat:Nat):Int)+1=m:=by omega
  rw [em] at hX;rcases zLo hy with hy | rfl
  .exact (B.bq y hy).mono uq
  .refine (zBD (s:=s) (m:=m) hX (Q:=QL p s.H) (.inl rfl) (fun r i=>zkY B.rg.hp ((B.rg.rg x hmem).reg r) i) (fun c=>?_) (B.bq x hmem)).mono uq;exact zkY B.rg.hp (.inr (B.held G (zpB hx (zr2 (.inl c))))) _
theorem BN.next {p:zd}(hp:zI p) {nb k:Nat}{s:za}{gh:Gh}(hk:k<4294960000) (B:BN p s) (G:FG p nb k s gh) (j:Int):BN p (uW s j):=by
 cases hd:s.Done with
 | true=>rw [ziw hd];exact B
 | false =>
  have hwl:=G.E.wl;have hml:=G.E.ml;unfold uW;split
  .have hf:=zeW s;exact B.same (by conv=>rhs;rw [<-hf]) (by conv=>rhs;rw [<-hf]) (by conv=>rhs;rw [<-hf]) (by conv=>rhs;rw [<-hf])
  split
  .by_cases h1:1<=j
   .exact B.worker hp hk G (by omega) hd
   .have:zS s j=s:=by unfold zS;rw [zb (.inr (.inl (by omega)))]
    rw [this];exact B
  .by_cases h1:1<=j-(s.Ws.length:Int)/\j-(s.Ws.length:Int)<=(s.Ms.length:Int)
   .exact B.mutator hp hk G (by omega) hd
   .have:zO s (j-(s.Ws.length:Int))=s:=by unfold zO;rw [yf]
    rw [this];exact B
theorem zJd {p:zd}(h:zI p):BN p (xF p):=by
 have hn:=h.n;refine ⟨zJG h,fun o ho=>.inl (.root o ho ?_),fun x hx h6=>?_,fun x hx=>?_⟩
 .have hr:=(xL _ _).1 ho;exact ⟨hr.1,(zGo h).mrk o ho⟩
 .obtain ⟨j,_,rfl⟩:=zKT.1 (show x∈(List.range p.Workers.toNat).map (uA p) from hx);exact zm h6 (by show ¬(0:Int)=6;decide)
 .obtain ⟨r,_,rfl⟩:=zKT.1 (show x∈p.Regs.map vq from hx);exact ⟨fun v hv=>(by cases hv),.inl rfl,fun e=>zm e (by show ¬((0:Int)=3\/(0:Int)=37);decide)⟩
def zAa (p:zd):BitVec 64:=ztf p.H (uN p)
theorem zI.heap9 {p:zd}(h:zI p):p.H.Objs.length<=9/\∀l∈p.H.Objs,l.length<1000000:=by
 have:=h.n;have:=h.slots;exact ⟨by omega,fun l hl=>by have:=(h.objs l hl).1;omega⟩
theorem zyY {p:zd}(h:zI p):zh1 p=some (zAa p,()):=by
 have hr:=h.regs;have hm:=h.mt;rw [zyj,zwG (by omega) (fun r hr=>by have:=(h.reg r hr).1;omega),zKE,zvQ h.heap9.1 h.heap9.2];rfl
theorem zCn {p:zd}(h:zI p) (o:Int):zP (zAa p) o=true↔Reach p.H (uN p) o:=zzk h.heap9.1 h.heap9.2 _ o
theorem zDJ {h:zr}(hv:∀l∈h.Objs,∀v∈l,0<=v/\v<=(h.Objs.length:Int)) {o i:Int}(hne:zW h o i≠0):zW h o i∈zR h o/\1<=zW h o i/\zW h o i<=(h.Objs.length:Int):=by
 unfold zW at hne ⊢;split
 .rename_i hs;rw [zb hs] at hne;unfold yz at hs;simp only [zKF,decide_eq_true_eq] at hs;obtain ⟨⟨⟨h1,h2⟩,h3⟩,h4⟩:=hs;have eo:=zKG (show (o-1).toNat<h.Objs.length by omega);have es:zR h o=h.Objs[(o-1).toNat]'(by omega):=by unfold zR;rw [zKH,eo];rfl
  have ei:=zKG (show i.toNat<(zR h o).length by omega);have eg:(zR h o).getD i.toNat 0=(zR h o)[i.toNat]'(by omega):=by rw [zKH,ei];rfl
  rw [eg] at hne ⊢;have hm:(zR h o)[i.toNat]'(by omega)∈zR h o:=zK1 _;have:=hv _ (by rw [es];exact zK1 _) _ hm;exact ⟨hm,by omega,this.2⟩
 .rename_i hs;rw [zc hs] at hne;exact zm rfl hne
def zmh (x:zj) (u j:Int):Prop:=(x.PC=5\/x.PC=6\/x.PC=8)->x.Obj=u->x.Slot<=j
def zvm (x:ze) (u j:Int):Prop:=(x.PC=36\/x.PC=37\/x.PC=38)->x.Obj=u->x.Slot<=j
def US (s:za) (u j:Int):Prop:=(∀(i:Nat) x,s.Ws[i]? =some x->zmh x u j)/\(∀(i:Nat) x,s.Ms[i]? =some x->zvm x u j)
def zCh (g:zJ) (o:Int):Prop:=g.Out=0/\(g.PC=0\/g.PC=1)/\g.Obj=o
def znD (x:zj) (o:Int):Prop:=x.PC=6/\zCh x.G o
def zpU (x:ze) (o:Int):Prop:=o∈x.Buf\/((x.PC=22\/((x.PC=1\/x.PC=3)/\x.Ret=22))/\x.Old=o)\/((x.PC=3\/x.PC=37)/\zCh x.G o)
def zjA (s:za) (o:Int):Prop:=(∃(i:Nat) (x:zj),s.Ws[i]? =some x/\znD x o)\/(∃(i:Nat) (x:ze),s.Ms[i]? =some x/\zpU x o)
inductive zoq (s:za) (W:Int->Int->Prop):Int->Prop
 | pend (o:Int) (h:zjA s o):zoq s W o
 | white (u j o:Int) (hW: ¬W u j) (hj:yz s.H u j=true) (he:zW s.H u j=o) (hu: ¬zP s.T.Marks u=true) (hp:zoq s W u):zoq s W o
 | grey (u j o:Int) (hW: ¬W u j) (hj:yz s.H u j=true) (he:zW s.H u j=o) (hg:yp s.T u=1) (hs:US s u j):zoq s W o
structure zvN (s s':za) (W W':Int->Int->Prop):Prop where
 mono:∀o,zP s.T.Marks o=true->zP s'.T.Marks o=true
 hp:∀o,zjA s o->zP s'.T.Marks o=true\/zjA s' o
 he:∀u j,¬W u j->yz s.H u j=true->(¬W' u j/\yz s'.H u j=true/\zW s'.H u j=zW s.H u j)\/(zW s.H u j=0\/zP s'.T.Marks (zW s.H u j)=true\/zjA s' (zW s.H u j))
 hg:∀u j,¬W u j->yz s.H u j=true->yp s.T u=1->US s u j->(yp s'.T u=1/\US s' u j)\/(zW s.H u j=0\/zP s'.T.Marks (zW s.H u j)=true\/zjA s' (zW s.H u j))
 hn:∀u j,¬W u j->yz s.H u j=true->¬zP s.T.Marks u=true->zP s'.T.Marks u=true->yp s'.T u=1/\US s' u j
theorem YF {h:zr}{u j:Int}(e:yz h u j=true):(1<=u/\u<=(h.Objs.length:Int))/\0<=j/\j<((zR h u).length:Int):=by
 unfold yz at e;simp only [zKF,decide_eq_true_eq] at e;exact ⟨⟨e.1.1.1,e.1.1.2⟩,e.1.2,e.2⟩
theorem zvN.prot {s s':za}{W W':Int->Int->Prop}(P:zvN s s' W W') {o:Int}(h:zoq s W o):o≠0->zP s'.T.Marks o=true\/zoq s' W' o:=by
 have cov:∀v:Int,v≠0->(v=0\/zP s'.T.Marks v=true\/zjA s' v)->zP s'.T.Marks v=true\/zoq s' W' v:=by
  rintro v h0 (e | e | e)
  .exact zm e h0
  .exact .inl e
  .exact .inr (.pend v e)
 induction h with
 | pend o h=>exact fun _=>(P.hp o h).imp id (fun h=>.pend o h)
 | white u j o hW hj he hu hp ih =>
  intro h0;subst he;have hu0:u≠0:=by have:=YF hj;omega
  rcases P.he u j hW hj with ⟨a,b,c⟩ | c
  .by_cases hm:zP s'.T.Marks u=true
   .obtain ⟨d,e⟩:=P.hn u j hW hj hu hm;exact .inr (.grey u j _ a b c d e)
   .rcases ih hu0 with h | h
    .exact zm h hm
    .exact .inr (.white u j _ a b c hm h)
  .exact cov _ h0 c
 | grey u j o hW hj he hg hs =>
  intro h0;subst he;rcases P.he u j hW hj with ⟨a,b,c⟩ | c
  .rcases P.hg u j hW hj hg hs with ⟨d,e⟩ | c2
   .exact .inr (.grey u j _ a b c d e)
   .exact cov _ h0 c2
  .exact cov _ h0 c
def zqN (n:Int) (x:zj):Prop:=(x.PC=5->0<=x.Slot/\x.Slot<n)/\(x.PC=6->1<=x.Slot/\x.Slot<=n)/\(x.PC=8->x.Slot=n)
def zvp (n:Int) (x:ze):Prop:=(x.PC=36->0<=x.Slot/\x.Slot<n)/\(x.PC=37->1<=x.Slot/\x.Slot<=n)/\(x.PC=38->x.Slot=n)
def zsj (p:zd) (s:za) (W:Int->Int->Prop) (m:Int) (x:ze):Prop :=
 ¬W (wX x (opM p m x).A) (opM p m x).S->((x.PC=21\/x.PC=22\/((x.PC=1\/x.PC=3)/\x.Ret=22))->x.Old=zW s.H (wX x (opM p m x).A) (opM p m x).S) /\
  (x.PC=23->zW s.H (wX x (opM p m x).A) (opM p m x).S=0\/zP s.T.Marks (zW s.H (wX x (opM p m x).A) (opM p m x).S)=true\/zW s.H (wX x (opM p m x).A) (opM p m x).S∈x.Buf)
structure PI (p:zd) (s:za) (W:Int->Int->Prop):Prop where
 lv:∀o,Reach p.H (uN p) o->zP s.T.Marks o=true\/zoq s W o
 sw:∀(i:Nat) x,s.Ws[i]? =some x->zqN p.H.Slots x
 sx:∀(i:Nat) x,s.Ms[i]? =some x->zvp p.H.Slots x
 cv:∀(i:Nat) x,s.Ms[i]? =some x->zsj p s W ((i:Int)+1) x
theorem zuN {s:za}{g:zJ}{o:Int}(hmd:1<=g.Mode/\g.Mode<=3) (ho:1<=o/\o<=64) (hb:zP s.T.Black o=true->zP s.T.Marks o=true) (a:zCh g o) :
  zCh (zG s g).2 o\/zP (zG s g).1.T.Marks o=true:=by
 obtain ⟨h1,h2,h3⟩:=a;unfold zG;rw [zi,zi,zi,zi,zi,zi,zi];split
 .right;show zP (shade s.T g.Obj).1.Marks o=true;rw [h3];unfold shade;split
  .rename_i e;exact Decidable.byContradiction fun hc=>((uJ ho).2 hc) e
  split
  .exact (yO _ ho o).2 (.inr rfl)
  .rename_i e;exact hb (by unfold zP;simpa using e)
 .left;exact ⟨h1,.inr rfl,h3⟩
theorem zIu {h:zr}{a i v u j:Int}(hne: ¬(u=a/\j=i)) (hi:yz h a i=true->0<=i):yz (xM h a i v) u j=yz h u j/\zW (xM h a i v) u j=zW h u j:=by
 have hl:=VV h a i v;by_cases hc:yz h a i=true/\0<=v/\v<=(h.Objs.length:Int)
 .have hs:=YF hc.1;have e0:xM h a i v={h with Objs:=h.Objs.set (a-1).toNat ((zR h a).set i.toNat v)}:=by unfold xM;rw [zb hc]
  have es:1<=u->zR (xM h a i v) u=if u=a then (zR h a).set i.toNat v else zR h u:=fun hu=>by
   rw [e0];unfold zR;rw [zu6 (by omega)];by_cases e:u=a
   .rw [yf,zb e]
   .rw [zi,zc e]
  have eh:yz (xM h a i v) u j=yz h u j:=by
   unfold yz;rw [hl];by_cases hu:1<=u
   .rw [es hu];by_cases e:u=a
    .rw [zb e,zK3,e]
    .rw [zc e]
   .simp [hu]
  refine ⟨eh,?_⟩;unfold zW;rw [eh];split
  .rename_i hj;have hp:=YF hj;rw [es hp.1.1];by_cases e:u=a
   .rw [zb e,zu6 (by omega),zc (by
     intro e2;exact hne ⟨e,by omega⟩),e]
   .rw [zc e]
  .rfl
 .have e0:xM h a i v=h:=by unfold xM;rw [zc hc]
  rw [e0];exact ⟨rfl,rfl⟩
theorem zGh (h:zr) (u j:Int):(yz h u j=true->yz (yP h) u j=true)/\zW (yP h) u j=zW h u j:=by
 have hl:=ZN h;have e1:1<=u->u<=(h.Objs.length:Int)->zR (yP h) u=zR h u:=fun h1 h2=>by
  unfold zR yP;rw [zKH,zKH,zLb (by omega)]
 have e2:u=(h.Objs.length:Int)+1->zR (yP h) u=List.replicate h.Slots.toNat 0:=fun h1=>by
  unfold zR yP;rw [zKH,zLg (by omega),show (u-1).toNat-h.Objs.length=0 by omega];rfl
 have e3:yz h u j=true->yz (yP h) u j=true:=fun e=>by
  have hs:=YF e;unfold yz;rw [e1 hs.1.1 hs.1.2,hl];simp;omega
 refine ⟨e3,?_⟩;by_cases c:yz h u j=true
 .have hs:=YF c;unfold zW;rw [zb c,zb (e3 c),e1 hs.1.1 hs.1.2]
 .unfold zW;rw [zc c];split
  .rename_i d;have hs:=YF d;by_cases hu:u<=(h.Objs.length:Int)
   .refine zm ?_ c;rw [e1 hs.1.1 hu] at hs;unfold yz;simp;omega
   .rw [e2 (by omega),zKH];cases hx:(List.replicate h.Slots.toNat (0:Int))[j.toNat]? with
    | none=>rfl
    | some v=>exact zMu (zKK hx)
  .rfl
theorem zFU (s:za) (m:Int) (x:ze):((zt s m x).1.H=s.H/\x.PC≠23)\/(x.PC=23/\(zt s m x).1.H=xM s.H (wX x (opM s.P m x).A) (opM s.P m x).S (wX x (opM s.P m x).R)/\(zt s m x).2.Buf=x.Buf)\/(x.PC=30/\(zt s m x).1.H=yP s.H):=by
 by_cases c:x.PC=23
 .have e:zt s m x=zhd s m x:=by
   unfold zt;rw [zi,zi,zi,zi,zi,zi,zi,zi,zb c]
  rw [e];exact .inr (.inl ⟨c,rfl,rfl⟩)
 by_cases d:x.PC=30
 .have e:zt s m x=UN s m x:=by
   unfold zt;rw [zi,zi,zi,zi,zi,zi,zi,zi,zi,zb d]
  rw [e];unfold UN;split
  .split
   .exact .inr (.inr ⟨d,rfl⟩)
   .exact .inl ⟨rfl,c⟩
  .exact .inl ⟨rfl,c⟩
 .rcases zqM s m x with h | h | h
  .exact .inl ⟨h,c⟩
  .exact zm h c
  .exact zm h d
theorem zH0 {p:zd}{nb:Nat}{s:za}{gh:Gh}{m:Int}{x:ze}(K:MX p s gh x) (O:XOk p nb m x) (hb:∀o,zP s.T.Black o=true->zP s.T.Marks o=true) {o:Int}(h:zpU x o):zpU (zt s m x).2 o\/zP (zt s m x).1.T.Marks o=true:=by
 have hrt:=O.ret;have hpc:=O.pc;refine xZ (motive:=fun r=>zpU r.2 o\/zP r.1.T.Marks o=true) s m x ?_ ?_ ?_ ?_ ?_ ?_ ?_ ?_ ?_ ?_ ?_ ?_ ?_ ?_ ?_ ?_ ?_ ?_ ?_ ?_
 all_goals try (intro c)
 .-- 0
  rcases h with h | ⟨h,_⟩ | ⟨h,_⟩
  .left;left;unfold mu0 zac;repeat' split
   all_goals exact h
  .omega
  .omega
 .-- 1
  unfold mu1;dsimp only;split
  .rename_i hl;rcases h with h | ⟨h,e⟩ | ⟨h,_⟩
   .have:x.Buf=[]:=List.length_eq_zero_iff.1 hl;rw [this] at h;cases h
   .left;right;left;exact ⟨.inl (by show x.Ret=22;omega),e⟩
   .omega
  .rename_i hl;rcases h with h | ⟨h,e⟩ | ⟨h,_⟩
   .obtain ⟨i,hi⟩:=zMo.1 h;have hil:=(zKO.1 hi).1;by_cases hlast:i=x.Buf.length-1
    .left;right;right;refine ⟨.inl rfl,rfl,.inl rfl,?_⟩;show x.Buf.getD (x.Buf.length-1) 0=o;rw [zKH,<-hlast,hi];rfl
    .left;left;show o∈x.Buf.take (x.Buf.length-1);exact zKK (i:=i) (by rw [List.getElem?_take_of_lt (by omega)];exact hi)
   .left;right;left;exact ⟨.inr ⟨.inr rfl,by show x.Ret=22;omega⟩,e⟩
   .omega
 .rcases h with h | ⟨h,_⟩ | ⟨h,_⟩
  .left;left;exact h
  .omega
  .omega
 .-- 3
  obtain ⟨G,gm,g0⟩:=K.p3 c;unfold mu3;dsimp only;rcases h with h | ⟨h,e⟩ | ⟨_,h⟩
  .left;left;split<;>exact h
  .left;right;left;split
   .exact ⟨.inr ⟨.inl rfl,by show x.Ret=22;omega⟩,e⟩
   .exact ⟨.inr ⟨.inr c,by show x.Ret=22;omega⟩,e⟩
  .rcases zuN G.md (h.2.2▸G.ob) (hb o) h with h' | h'
   .left;right;right;rw [zc (by have:=h'.1;omega)];exact ⟨.inl c,h'⟩
   .exact .inr h'
 .rcases h with h | ⟨h,_⟩ | ⟨h,_⟩
  .left;left;exact h
  .omega
  .omega
 .rcases h with h | ⟨h,_⟩ | ⟨h,_⟩
  .left;left;unfold zfC;dsimp only;split<;>exact h
  .omega
  .omega
 .rcases h with h | ⟨h,_⟩ | ⟨h,_⟩
  .left;left;unfold zgk;dsimp only;split<;>exact h
  .omega
  .omega
 .-- 22
  unfold zfR;dsimp only;rcases h with h | ⟨h,e⟩ | ⟨h,_⟩
  .left;left;split
   .exact h
   .exact zKZ _ h
  .left;split
   .right;left;exact ⟨.inr ⟨.inl rfl,rfl⟩,e⟩
   .left;exact zLd _ (by rw [e];simp)
  .omega
 .rcases h with h | ⟨h,_⟩ | ⟨h,_⟩
  .left;left;exact h
  .omega
  .omega
 .rcases h with h | ⟨h,_⟩ | ⟨h,_⟩
  .left;left;unfold UN;repeat' split
   all_goals exact h
  .omega
  .omega
 .rcases h with h | ⟨h,_⟩ | ⟨h,_⟩
  .left;left;unfold zfT;dsimp only;split<;>exact h
  .omega
  .omega
 .rcases h with h | ⟨h,_⟩ | ⟨h,_⟩
  .left;left;unfold zfa;dsimp only;repeat' split
   all_goals exact h
  .omega
  .omega
 .rcases h with h | ⟨h,_⟩ | ⟨h,_⟩
  .left;left;exact h
  .omega
  .omega
 .rcases h with h | ⟨h,_⟩ | ⟨h,_⟩
  .left;left;unfold zgh;dsimp only;split<;>exact h
  .omega
  .omega
 .rcases h with h | ⟨h,_⟩ | ⟨h,_⟩
  .left;left;unfold zgj;dsimp only;split<;>exact h
  .omega
  .omega
 .rcases h with h | ⟨h,_⟩ | ⟨h,_⟩
  .left;left;unfold zfM;dsimp only;split<;>exact h
  .omega
  .omega
 .-- 37
  obtain ⟨G,gm,g0⟩:=K.p37 c;unfold za5;dsimp only;rcases h with h | ⟨h,e⟩ | ⟨_,h⟩
  .left;left;split<;>exact h
  .omega
  .rcases zuN G.md (h.2.2▸G.ob) (hb o) h with h' | h'
   .left;right;right;rw [zc (by have:=h'.1;omega)];exact ⟨.inr c,h'⟩
   .exact .inr h'
 .rcases h with h | ⟨h,_⟩ | ⟨h,_⟩
  .left;left;exact h
  .omega
  .omega
 .rcases h with h | ⟨h,_⟩ | ⟨h,_⟩
  .left;left;exact h
  .omega
  .omega
 .exact .inl h
theorem zGC {p:zd}{nb:Nat}{s:za}{gh:Gh}(hsl:s.H.Slots=p.H.Slots) (h1:1<=p.H.Slots/\p.H.Slots<=2) {m:Int}{x:ze}(O:XOk p nb m x) (S:zvp p.H.Slots x) :
  zvp p.H.Slots (zt s m x).2/\∀u j,0<=j->zvm x u j->zvm (zt s m x).2 u j\/zW s.H u j=0\/zpU (zt s m x).2 (zW s.H u j):=by
 have no:∀ {y:ze},y.PC≠36->y.PC≠37->y.PC≠38->zvp p.H.Slots y/\∀u j,0<=j->zvm x u j->zvm y u j\/zW s.H u j=0\/zpU y (zW s.H u j) :=
  fun a b c=>⟨⟨fun e=>zm e a,fun e=>zm e b,fun e=>zm e c⟩,fun u j _ _=>.inl (fun e=>by omega)⟩
 have on:∀k:Int,(onM s k=36/\k≠p.H.Slots)\/(onM s k=38/\k=p.H.Slots):=fun k=>by
  unfold onM;rw [hsl];split
  .rename_i e;exact .inr ⟨rfl,e⟩
  .rename_i e;exact .inl ⟨rfl,e⟩
 refine xZ (motive:=fun r=>zvp p.H.Slots r.2/\∀u j,0<=j->zvm x u j->zvm r.2 u j\/zW s.H u j=0\/zpU r.2 (zW s.H u j)) s m x ?_ ?_ ?_ ?_ ?_ ?_ ?_ ?_ ?_ ?_ ?_ ?_ ?_ ?_ ?_ ?_ ?_ ?_ ?_ ?_
 all_goals try (intro c)
 .unfold mu0 zac;repeat' split
  all_goals exact no (by (try dsimp only [setM]);omega) (by (try dsimp only [setM]);omega) (by (try dsimp only [setM]);omega)
 .have:=O.ret (.inl c);unfold mu1;dsimp only;split
  .exact no (by dsimp only;omega) (by dsimp only;omega) (by dsimp only;omega)
  .exact no (by dsimp only;omega) (by dsimp only;omega) (by dsimp only;omega)
 .unfold mu2;exact no (by dsimp only;omega) (by dsimp only;omega) (by dsimp only;omega)
 .unfold mu3;dsimp only;split
  .exact no (by dsimp only;omega) (by dsimp only;omega) (by dsimp only;omega)
  .exact no (by dsimp only;omega) (by dsimp only;omega) (by dsimp only;omega)
 .unfold zkb;exact no (by dsimp only [setM];omega) (by dsimp only [setM];omega) (by dsimp only [setM];omega)
 .unfold zfC;dsimp only;split
  .exact no (by dsimp only [v8];omega) (by dsimp only [v8];omega) (by dsimp only [v8];omega)
  .exact no (by dsimp only;omega) (by dsimp only;omega) (by dsimp only;omega)
 .unfold zgk;dsimp only;split
  .exact no (by dsimp only;omega) (by dsimp only;omega) (by dsimp only;omega)
  .exact no (by dsimp only;omega) (by dsimp only;omega) (by dsimp only;omega)
 .unfold zfR;dsimp only;split
  .exact no (by dsimp only;omega) (by dsimp only;omega) (by dsimp only;omega)
  .exact no (by dsimp only;omega) (by dsimp only;omega) (by dsimp only;omega)
 .unfold zhd;exact no (by dsimp only [v8];omega) (by dsimp only [v8];omega) (by dsimp only [v8];omega)
 .unfold UN;split
  .split
   .exact no (by dsimp only [setM];omega) (by dsimp only [setM];omega) (by dsimp only [setM];omega)
   .exact no (by dsimp only [v8];omega) (by dsimp only [v8];omega) (by dsimp only [v8];omega)
  .exact no (by dsimp only;omega) (by dsimp only;omega) (by dsimp only;omega)
 .unfold zfT;dsimp only;split
  .exact no (by dsimp only;omega) (by dsimp only;omega) (by dsimp only;omega)
  .exact no (by dsimp only;omega) (by dsimp only;omega) (by dsimp only;omega)
 .unfold zfa;dsimp only;repeat' split
  all_goals exact no (by dsimp only;omega) (by dsimp only;omega) (by dsimp only;omega)
 .unfold zjX;exact no (by dsimp only;omega) (by dsimp only;omega) (by dsimp only;omega)
 .unfold zgh;dsimp only;split
  .exact no (by dsimp only;omega) (by dsimp only;omega) (by dsimp only;omega)
  .exact no (by dsimp only;omega) (by dsimp only;omega) (by dsimp only;omega)
 .unfold zgj;dsimp only;split
  .exact no (by dsimp only;omega) (by dsimp only;omega) (by dsimp only;omega)
  .exact ⟨⟨fun _=>⟨zK6 _,by show (0:Int)<_;omega⟩,fun e=>zm e (by show ¬(36:Int)=37;decide),fun e=>zm e (by show ¬(36:Int)=38;decide)⟩,fun u j h0 _=>.inl (fun _ _=>h0)⟩
 .-- 36
  have hs:=S.1 c;have w:wc (x.Slot+1)=x.Slot+1:=yQ;unfold zfM;dsimp only;rw [w];split
  .rename_i hv;refine ⟨⟨fun e=>?_,fun e=>?_,fun e=>?_⟩,fun u j h0 h=>?_⟩
   .dsimp only at e ⊢;have:=on (x.Slot+1);omega
   .dsimp only at e ⊢;have:=on (x.Slot+1);omega
   .dsimp only at e ⊢;have:=on (x.Slot+1);omega
   .by_cases hu:x.Obj=u
    .have hle:=h (.inl c) hu;by_cases hj:j=x.Slot
     .right;left;rw [<-hu,hj];exact hv
     .left;intro _ _;show x.Slot+1<=j;omega
    .left;intro _ e;exact zm e hu
  .rename_i hv;refine ⟨⟨fun e=>zm e (by show ¬(37:Int)=36;decide),fun _=>⟨by show 1<=x.Slot+1;omega,by show x.Slot+1<=_;omega⟩,fun e=>zm e (by show ¬(37:Int)=38;decide)⟩,fun u j h0 h=>?_⟩;by_cases hu:x.Obj=u
   .have hle:=h (.inl c) hu;by_cases hj:j=x.Slot
    .right;right;right;right;exact ⟨.inr rfl,rfl,.inl rfl,by rw [<-hu,hj];rfl⟩
    .left;intro _ _;show x.Slot+1<=j;omega
   .left;intro _ e;exact zm e hu
 .-- 37
  have hs:=S.2.1 c;unfold za5;dsimp only;split
  .refine ⟨⟨fun e=>?_,fun e=>?_,fun e=>?_⟩,fun u j h0 h=>.inl (fun _ e=>h (.inr (.inl c)) e)⟩
   .dsimp only at e ⊢;have:=on x.Slot;omega
   .dsimp only at e ⊢;have:=on x.Slot;omega
   .dsimp only at e ⊢;have:=on x.Slot;omega
  .exact ⟨⟨fun e=>zm e (by show ¬x.PC=36;omega),fun _=>hs,fun e=>zm e (by show ¬x.PC=38;omega)⟩,fun u j h0 h=>.inl (fun _ e=>h (.inr (.inl c)) e)⟩
 .unfold zg4;exact no (by dsimp only;omega) (by dsimp only;omega) (by dsimp only;omega)
 .unfold zme;exact no (by dsimp only;omega) (by dsimp only;omega) (by dsimp only;omega)
 .exact ⟨S,fun u j _ h=>.inl h⟩
theorem zbd.mono {s s':za}(F:zbd s s') {o:Int}(h:zP s.T.Marks o=true):zP s'.T.Marks o=true:=by
 rcases F with ⟨e,_⟩ | ⟨q,_,_,e,_⟩ | ⟨q,_,e,_⟩ | ⟨_,_,e⟩
 .rw [e];exact h
 .rw [e];exact (xq _ _ _).2 (.inl h)
 .rw [e];exact h
 .rw [e];exact (xq _ _ _).2 (.inl h)
theorem zF1 {p:zd}{s:za}(hP:s.P=p) {W:Int->Int->Prop}{m:Int}{x:ze}(K:zsj p s W m x) (mono:∀o,zP s.T.Marks o=true->zP (zt s m x).1.T.Marks o=true) (hr:x.PC=1\/x.PC=3->x.Ret=2\/x.Ret=22) :
  ∀l:List ze,zsj p {(zt s m x).1 with Ms:=l} (fun u j=>W u j\/(x.PC=23/\u=wX x (opM p m x).A/\j=(opM p m x).S)) m (zt s m x).2:=by
 intro l;have no:∀ {t:za}{y:ze},¬(y.PC=21\/y.PC=22\/((y.PC=1\/y.PC=3)/\y.Ret=22))->y.PC≠23->zsj p t (fun u j=>W u j\/(x.PC=23/\u=wX x (opM p m x).A/\j=(opM p m x).S)) m y :=
  fun a b _=>⟨fun e=>zm e a,fun e=>zm e b⟩
 have keep:∀ {t:za}{y:ze},y.IP=x.IP->y.Regs=x.Regs->wX y (opM p m y).A=wX x (opM p m x).A/\(opM p m y).S=(opM p m x).S:=fun e1 e2=>by
  unfold opM wX;rw [e1,e2];exact ⟨rfl,rfl⟩
 revert mono;refine xZ (motive:=fun r=>(∀o,zP s.T.Marks o=true->zP r.1.T.Marks o=true)->zsj p {r.1 with Ms:=l} (fun u j=>W u j\/(x.PC=23/\u=wX x (opM p m x).A/\j=(opM p m x).S)) m r.2) s m x ?_ ?_ ?_ ?_ ?_ ?_ ?_ ?_ ?_ ?_ ?_ ?_ ?_ ?_ ?_ ?_ ?_ ?_ ?_ ?_
 .intro c _;unfold mu0 zac;repeat' split
  all_goals exact no (by (try dsimp only [setM]);omega) (by (try dsimp only [setM]);omega)
 .intro c _;have hr:=hr (.inl c);unfold mu1;dsimp only;intro hW;split
  .refine ⟨fun e=>?_,fun e=>by dsimp only at e;omega⟩;have e:x.Ret=21\/x.Ret=22\/((x.Ret=1\/x.Ret=3)/\x.Ret=22):=e;exact (K (fun h=>hW (by split<;>exact .inl h))).1 (.inr (.inr ⟨.inl c,by omega⟩))
  .refine ⟨fun e=>?_,fun e=>by dsimp only at e;omega⟩;have e:(3:Int)=21\/(3:Int)=22\/(((3:Int)=1\/(3:Int)=3)/\x.Ret=22):=e;exact (K (fun h=>hW (by split<;>exact .inl h))).1 (.inr (.inr ⟨.inl c,by omega⟩))
 .intro c _;unfold mu2;exact no (by (try dsimp only);omega) (by (try dsimp only);omega)
 .intro c _;unfold mu3;dsimp only;intro hW;have eH:(zG s x.G).1.H=s.H:=by rw [uf]
  split
  .refine ⟨fun e=>?_,fun e=>by dsimp only at e;omega⟩;have e:(1:Int)=21\/(1:Int)=22\/(((1:Int)=1\/(1:Int)=3)/\x.Ret=22):=e;show x.Old=zW (zG s x.G).1.H _ _;rw [eH];exact (K (fun h=>hW (by split<;>exact .inl h))).1 (.inr (.inr ⟨.inr c,by omega⟩))
  .refine ⟨fun e=>?_,fun e=>by dsimp only at e;omega⟩;have e:x.PC=21\/x.PC=22\/((x.PC=1\/x.PC=3)/\x.Ret=22):=e;show x.Old=zW (zG s x.G).1.H _ _;rw [eH];exact (K (fun h=>hW (by split<;>exact .inl h))).1 (.inr (.inr ⟨.inr c,by omega⟩))
 .intro c _;unfold zkb;exact no (by (try dsimp only [setM]);omega) (by (try dsimp only [setM]);omega)
 .intro c _;unfold zfC;dsimp only;split
  .exact no (by (try dsimp only [v8]);omega) (by (try dsimp only [v8]);omega)
  .intro hW;refine ⟨fun _=>?_,fun e=>by dsimp only at e;omega⟩;show zs7 s m x=_;unfold zs7;rw [hP];rfl
 .intro c mono;unfold zgk;dsimp only;split
  .rename_i h;intro hW;have k:=(K (fun h=>hW (.inl h))).1 (.inl c);refine ⟨fun e=>by dsimp only at e;omega,fun _=>?_⟩;show zW s.H (wX x (opM p m x).A) (opM p m x).S=0\/zP s.T.Marks (zW s.H (wX x (opM p m x).A) (opM p m x).S)=true\/_;rw [<-k];rcases h with h | h
   .exact .inl h
   .right;left;unfold yp at h;split at h
    .rename_i h2;exact ((vr _ _ _).1 h2).1
    .split at h
     .assumption
     .exact zm rfl h
  .intro hW;exact ⟨fun _=>(K (fun h=>hW (.inl h))).1 (.inl c),fun e=>by dsimp only at e;omega⟩
 .intro c mono;unfold zfR;dsimp only;split
  .intro hW;exact ⟨fun _=>(K (fun h=>hW (.inl h))).1 (.inr (.inl c)),fun e=>by dsimp only at e;omega⟩
  .intro hW;have k:=(K (fun h=>hW (.inl h))).1 (.inr (.inl c));refine ⟨fun e=>by dsimp only at e;omega,fun _=>.inr (.inr ?_)⟩;show zW s.H (wX x (opM p m x).A) (opM p m x).S∈x.Buf++[x.Old];rw [<-k];simp
 .intro c _;unfold zhd;exact no (by (try dsimp only [v8]);omega) (by (try dsimp only [v8]);omega)
 .intro c _;unfold UN;split
  .split
   .exact no (by (try dsimp only [setM]);omega) (by (try dsimp only [setM]);omega)
   .exact no (by (try dsimp only [v8]);omega) (by (try dsimp only [v8]);omega)
  .exact no (by (try dsimp only);omega) (by (try dsimp only);omega)
 .intro c _;unfold zfT;dsimp only;split
  .exact no (by (try dsimp only);omega) (by (try dsimp only);omega)
  .exact no (by (try dsimp only);omega) (by (try dsimp only);omega)
 .intro c _;unfold zfa;dsimp only;repeat' split
  all_goals exact no (by (try dsimp only);omega) (by (try dsimp only);omega)
 .intro c _;unfold zjX;exact no (by (try dsimp only);omega) (by (try dsimp only);omega)
 .intro c _;unfold zgh;dsimp only;split
  .exact no (by (try dsimp only);omega) (by (try dsimp only);omega)
  .exact no (by (try dsimp only);omega) (by (try dsimp only);omega)
 .intro c _;unfold zgj;dsimp only;split
  .exact no (by (try dsimp only);omega) (by (try dsimp only);omega)
  .exact no (by (try dsimp only);omega) (by (try dsimp only);omega)
 .intro c _;unfold zfM;dsimp only;have:=zdI s (wc (x.Slot+1));split
  .exact no (by (try dsimp only);omega) (by (try dsimp only);omega)
  .exact no (by (try dsimp only);omega) (by (try dsimp only);omega)
 .intro c _;unfold za5;dsimp only;have:=zdI s x.Slot;split
  .exact no (by (try dsimp only);omega) (by (try dsimp only);omega)
  .exact no (by (try dsimp only);omega) (by (try dsimp only);omega)
 .intro c _;unfold zg4;exact no (by (try dsimp only);omega) (by (try dsimp only);omega)
 .intro c _;unfold zme;exact no (by (try dsimp only);omega) (by (try dsimp only);omega)
 .intro _ hW;exact K (fun h=>hW (.inl h))
theorem zvG {p:zd}{nb k:Nat}{s s':za}{gh:Gh}(G:FG p nb k s gh) (F:zbd s s') {u:Int}(hu:u<=(s.H.Objs.length:Int)) (h:yp s.T u=1):yp s'.T u=1\/(yp s.T u=1/\s'.T={s.T with Black:=s.T.Black|||bit u}):=by
 have ht:=(w8 _ _).1 h;rcases F with ⟨e,_⟩ | ⟨q,_,_,e,_⟩ | ⟨q,hq,e,_⟩ | ⟨_,_,e⟩
 .left;rw [e];exact h
 .left;rw [e,w8];exact ⟨(xq _ _ _).2 (.inl ht.1),ht.2⟩
 .by_cases hqu:u=q
  .right;subst hqu;exact ⟨h,e⟩
  .left;rw [e,w8];exact ⟨ht.1,fun hb=>(YB hb).elim ht.2 (fun e=>hqu e)⟩
 .left;rw [e,w8];exact ⟨(xq _ _ _).2 (.inl ht.1),fun hb=>(YB hb).elim ht.2 (fun e=>by omega)⟩
theorem zua {p:zd}{nb k:Nat}{s s':za}{gh:Gh}(G:FG p nb k s gh) (F:zbd s s') {u:Int}(hu:u<=(s.H.Objs.length:Int)) (h: ¬zP s.T.Marks u=true) (h':zP s'.T.Marks u=true):yp s'.T u=1:=by
 have nb: ¬zP s.T.Black u=true:=fun e=>h (G.B.blk u e);rcases F with ⟨e,_⟩ | ⟨q,_,_,e,_⟩ | ⟨q,hq,e,_⟩ | ⟨_,_,e⟩
 .rw [e] at h';exact zm h' h
 .rw [w8];refine ⟨h',?_⟩;rw [e];exact nb
 .rw [e] at h';exact zm h' h
 .rw [e] at h';rcases YB h' with h2 | h2
  .exact zm h2 h
  .omega
theorem zDh {p:zd}{nb:Nat}{s:za}(E:EOk p nb s) {u j:Int}(h:yz s.H u j=true):0<=j/\j<p.H.Slots:=by
 have hs:=YF h;have hm:zR s.H u∈s.H.Objs:=by
  unfold zR;rw [zKH,zKG (show (u-1).toNat<s.H.Objs.length by omega)];exact zK1 _
 have h1:=(E.H.objs _ hm).1;have h2:=E.H.slots;omega
theorem zIz {s:za}{m:Int}{x:ze}(c:x.PC=3):(zt s m x).2.PC=1\/(zt s m x).2.PC=3:=by
 unfold zt;rw [zi,zi,zi,zb c];unfold mu3;dsimp only;split
 .exact .inl rfl
 .exact .inr c
theorem zFz {s:za}{m:Int}{x:ze}(c:x.PC=37):(zt s m x).2.Obj=x.Obj:=by
 have e37:zt s m x=za5 s m x:=by
  unfold zt;rw [zi,zi,zi,zi,zi,zi,zi,zi,zi,zi,zi,zi,zi,zi,zi,zi,zb c]
 rw [e37];unfold za5;dsimp only;split<;>rfl
def zEQ (s:za) (m:Int) (x:ze) (N C:List Int):Prop :=
 (N=[]/\C=[]/\(zt s m x).1.T=s.T)\/(N=[x.G.Obj]/\C=[]/\(x.PC=3\/x.PC=37)/\¬(s.T.Marks|||bit x.G.Obj=s.T.Marks)/\(zt s m x).1.T={s.T with Marks:=s.T.Marks|||bit x.G.Obj})\/(N=[]/\C=[x.Obj]/\x.PC=38/\(zt s m x).1.T=xj s.T x.Obj) \/
   (N=[]/\C=[]/\x.PC=30/\ZB s.H s.P.Most=true/\(zt s m x).1.H=yP s.H/\(zt s m x).1.T=Y0 s.T (wc (s.H.Objs.length+1)))
theorem FG.fresh {p:zd}(hp:zI p) {nb k:Nat}{s:za}{gh:Gh}(G:FG p nb k s gh):Y0 s.T (wc (s.H.Objs.length+1))=⟨s.T.Marks|||bit ((s.H.Objs.length:Int)+1),s.T.Black|||bit ((s.H.Objs.length:Int)+1)⟩/\¬zP s.T.Marks ((s.H.Objs.length:Int)+1)=true/\(s.H.Objs.length:Int)<=9:=by
 have hN0:=G.E.H.n;have hM0:=hp.most;have hn6:=hp.n;have nm: ¬zP s.T.Marks ((s.H.Objs.length:Int)+1)=true:=fun e=>by have:=G.mrk _ e;omega
 have hw:wc ((s.H.Objs.length:Int)+1)=(s.H.Objs.length:Int)+1:=yQ;rw [hw,zev (by omega) nm (fun e=>nm (G.B.blk _ e))];exact ⟨rfl,nm,by omega⟩
theorem zFW {p:zd}(hp:zI p) {nb k:Nat}{s:za}{gh:Gh}(G:FG p nb k s gh) {m:Int}{i:Nat}{x:ze}(hx:s.Ms[i]? =some x) {N C:List Int}(hT:zEQ s m x N C) {u:Int}(hg:yp s.T u=1)
  (h:(zt s m x).1.T={s.T with Black:=s.T.Black|||bit u}):x.PC=38/\x.Obj=u:=by
 have hb:=((w8 _ _).1 hg).2;have hu:=(yO s.T.Black (Wu hg) u).2 (.inr rfl);rcases hT with ⟨_,_,e⟩ | ⟨_,_,_,_,e⟩ | ⟨_,_,c,e⟩ | ⟨_,_,_,_,e1,e⟩
 .rw [e] at h;have:=congrArg zn.Black h;exact zm (by rw [this];exact hu) hb
 .rw [e] at h;have:=congrArg zn.Black h;exact zm (by rw [this];exact hu) hb
 .have hob:yp s.T x.Obj=1:=G.grey (zpB hx (by unfold yn;rw [zad (.inr c)];simp));rw [e] at h;unfold xj at h;rw [zb hob] at h;have hbb:s.T.Black|||bit x.Obj=s.T.Black|||bit u:=congrArg zn.Black h;refine ⟨c,?_⟩;rw [<-hbb] at hu;rcases YB hu with h2 | h2
  .exact zm h2 hb
  .exact h2.symm
 .obtain ⟨f1,f2,f3⟩:=G.fresh hp;rw [e,f1] at h;have:s.T.Marks|||bit ((s.H.Objs.length:Int)+1)=s.T.Marks:=congrArg zn.Marks h;exact zm (by rw [<-this];exact (yO _ (by omega) _).2 (.inr rfl)) f2
theorem zFa {p:zd}(hp:zI p) {nb k:Nat}{s:za}{gh:Gh}(G:FG p nb k s gh) {m:Int}{x:ze}{N C:List Int}(hT:zEQ s m x N C) {u:Int}(hu:u<=(s.H.Objs.length:Int)) (h0: ¬zP s.T.Marks u=true) (h1:zP (zt s m x).1.T.Marks u=true):x.PC=3\/x.PC=37:=by
 rcases hT with ⟨_,_,e⟩ | ⟨_,_,c,_,e⟩ | ⟨_,_,c,e⟩ | ⟨_,_,c,_,_,e⟩
 .rw [e] at h1;exact zm h1 h0
 .exact c
 .rw [e,(zai _ _).1] at h1;exact zm h1 h0
 .obtain ⟨f1,f2,f3⟩:=G.fresh hp;rw [e,f1] at h1;rcases YB h1 with h | h
  .exact zm h h0
  .omega
theorem zxw {p:zd}{nb k:Nat}{s:za}{gh:Gh}(G:FG p nb k s gh) {i:Nat}{y:zj}(hy:s.Ws[i]? =some y) (hpc:y.PC=5\/y.PC=6\/y.PC=8):zP s.T.Marks y.Obj=true:=by
 have hg:yp s.T y.Obj=1:=G.grey (zpH hy (by
  unfold z5;rcases hpc with e | e | e
  .rw [Ve (.inl e)];simp
  .rw [zw9 e];simp
  .rw [Ve (.inr e)];simp))
 exact ((w8 _ _).1 hg).1
theorem zxB {p:zd}{nb k:Nat}{s:za}{gh:Gh}(G:FG p nb k s gh) {i:Nat}{y:ze}(hy:s.Ms[i]? =some y) (hpc:y.PC=36\/y.PC=37\/y.PC=38):zP s.T.Marks y.Obj=true:=by
 have hg:yp s.T y.Obj=1:=G.grey (zpB hy (by
  unfold yn;rcases hpc with e | e | e
  .rw [zad (.inl e)];simp
  .rw [zs1 e];simp
  .rw [zad (.inr e)];simp))
 exact ((w8 _ _).1 hg).1
theorem PI.mutator {p:zd}(hp:zI p) {nb k:Nat}{s:za}{gh:Gh}(hk:k<4294960000) (G:FG p nb k s gh) {W:Int->Int->Prop}(I:PI p s W) {m:Int}(hm:1<=m/\m<=p.Mutators) (hd:s.Done=false):∃W',PI p (zO s m) W':=by
 obtain ⟨gh',G',F,x,hx,N,C,hbag,hT⟩:=G.mutator hp hk hm hd;have hT:zEQ s m x N C:=hT;have hml:=G.E.ml;have hsl:=hp.slots;have hi:(m-1).toNat<s.Ms.length:=(zKO.1 hx).1;have ei:(((m-1).toNat:Nat):Int)+1=m:=by omega
 have eS:zO s m={(zt s m x).1 with Ms:=s.Ms.set (m-1).toNat (zt s m x).2}:=by
  unfold zO;rw [zc (by rw [hd];rintro (e | e | e)<;>first | cases e | omega),hx]
 have hMX:=G.M _ x hx;have hXO:=G.E.X _ x hx;have hcv:=I.cv _ x hx;rw [ei] at hXO hcv;have hP:=G.E.S.P;have eH:(zO s m).H=(zt s m x).1.H:=by rw [eS]
 have eT:(zO s m).T=(zt s m x).1.T:=by rw [eS]
 have eW:(zO s m).Ws=s.Ws:=by rw [eS];show (zt s m x).1.Ws=_;rw [ziP]
 have eX:(zO s m).Ms=s.Ms.set (m-1).toNat (zt s m x).2:=by rw [eS]
 have mono:∀o,zP s.T.Marks o=true->zP (zO s m).T.Marks o=true:=fun o h=>F.mono h;obtain ⟨sl1,sl2⟩:=zGC (s:=s) (m:=m) (gh:=gh) G.E.H.slots hsl hXO (I.sx _ x hx);have here:(zO s m).Ms[(m-1).toNat]? =some (zt s m x).2:=by rw [eX];exact zLL hi
 have there:∀(i:Nat) y,i≠(m-1).toNat->s.Ms[i]? =some y->(zO s m).Ms[i]? =some y:=fun i y hne h=>by rw [eX,zLf (fun e=>hne e.symm)];exact h
 have back:∀(i:Nat) y,(zO s m).Ms[i]? =some y->(i=(m-1).toNat/\y=(zt s m x).2)\/(i≠(m-1).toNat/\s.Ms[i]? =some y):=fun i y h=>by
  rw [eX] at h;by_cases hne:i=(m-1).toNat
  .subst hne;rw [zLL hi] at h;injection h with h;exact .inl ⟨rfl,h.symm⟩
  .rw [zLf (fun e=>hne e.symm)] at h;exact .inr ⟨hne,h⟩
 have heapS:∀u j,¬(x.PC=23/\u=wX x (opM p m x).A/\j=(opM p m x).S)->(yz s.H u j=true->yz (zO s m).H u j=true)/\zW (zO s m).H u j=zW s.H u j:=fun u j hne=>by
  rw [eH];rcases zFU s m x with ⟨e,_⟩ | ⟨c,e,_⟩ | ⟨_,e⟩
  .rw [e];exact ⟨id,rfl⟩
  .rw [e,hP];obtain ⟨a,b⟩:=zIu (h:=s.H) (a:=wX x (opM p m x).A) (i:=(opM p m x).S) (v:=wX x (opM p m x).R) (u:=u) (j:=j) (fun e=>hne ⟨c,e⟩) (fun e=>(YF e).2.1);exact ⟨fun h=>a.trans h,b⟩
  .rw [e];exact zGh _ _ _
 have P:zvN s (zO s m) W (fun u j=>W u j\/(x.PC=23/\u=wX x (opM p m x).A/\j=(opM p m x).S)):=by
  refine ⟨mono,fun o h=>?_,fun u j hW hj=>?_,fun u j hW hj hg hu=>?_,fun u j hW hj hm0 hm1=>?_⟩
  .rcases h with ⟨i,y,hy,h⟩ | ⟨i,y,hy,h⟩
   .right;left;exact ⟨i,y,by rw [eW];exact hy,h⟩
   .by_cases hne:i=(m-1).toNat
    .subst hne;rw [hx] at hy;injection hy with hy;subst hy;rcases zH0 (m:=m) hMX hXO G.B.blk h with h | h
     .right;right;exact ⟨_,_,here,h⟩
     .left;rw [eT];exact h
    .right;right;exact ⟨i,y,there i y hne hy,h⟩
  .by_cases hc:x.PC=23/\u=wX x (opM p m x).A/\j=(opM p m x).S
   .obtain ⟨c,rfl,rfl⟩:=hc;right;rcases (hcv hW).2 c with h | h | h
    .exact .inl h
    .exact .inr (.inl (mono _ h))
    .right;right;right;refine ⟨_,_,here,.inl ?_⟩;rcases zFU s m x with ⟨_,e⟩ | ⟨_,_,e⟩ | ⟨e,_⟩
     .exact zm c e
     .rw [e];exact h
     .omega
   .left;obtain ⟨a,b⟩:=heapS u j hc;exact ⟨fun h=>h.elim hW hc,a hj,b⟩
  .have hpos:=YF hj;have hrow:=zDh G.E hj;have htint:yp (zO s m).T u=1:=by
    rcases zvG G F hpos.1.2 hg with h | ⟨_,h⟩
    .exact h
    .exfalso;obtain ⟨c,ho⟩:=zFW hp G hx hT hg (by rw [<-eT];exact h);have hle:=hu.2 _ x hx (.inr (.inr c)) ho;have:=(I.sx _ x hx).2.2 c;omega
   rcases sl2 u j hpos.2.1 (hu.2 _ x hx) with h | h | h
   .left;refine ⟨htint,fun i y hy=>hu.1 i y (by rw [<-eW];exact hy),fun i y hy=>?_⟩;rcases back i y hy with ⟨_,rfl⟩ | ⟨_,hy⟩
    .exact h
    .exact hu.2 i y hy
   .exact .inr (.inl h)
   .exact .inr (.inr (.inr (.inr ⟨_,_,here,h⟩)))
  .have hpos:=YF hj;refine ⟨zua G F hpos.1.2 hm0 hm1,fun i y hy hpc ho=>?_,fun i y hy hpc ho=>?_⟩
   .rw [eW] at hy;exact zm (ho▸zxw G hy hpc) hm0
   .rcases back i y hy with ⟨_,rfl⟩ | ⟨_,hy⟩
    .exfalso;rcases zFa hp G hT hpos.1.2 hm0 (by rw [<-eT];exact hm1) with c | c
     .have:=zIz (s:=s) (m:=m) c;omega
     .have h3:=zFz (s:=s) (m:=m) c;exact hm0 (by rw [<-ho,h3];exact zxB G hx (.inr (.inl c)))
    .exact zm (ho▸zxB G hy hpc) hm0
 refine ⟨fun u j=>W u j\/(x.PC=23/\u=wX x (opM p m x).A/\j=(opM p m x).S),fun o ho=>?_,fun i y hy=>I.sw i y (by rw [<-eW];exact hy),fun i y hy=>?_,fun i y hy=>?_⟩
 .have h0:o≠0:=by have:=ho.in;omega
  rcases I.lv o ho with h | h
  .exact .inl (mono o h)
  .exact P.prot h h0
 .rcases back i y hy with ⟨_,rfl⟩ | ⟨_,hy⟩
  .exact sl1
  .exact I.sx i y hy
 .rcases back i y hy with ⟨rfl,rfl⟩ | ⟨_,hy⟩
  .rw [ei,eS];exact zF1 hP hcv (fun o h=>by rw [<-eT];exact mono o h) hXO.ret _
  .intro hW;have hW1: ¬W (wX y (opM p ((i:Int)+1) y).A) (opM p ((i:Int)+1) y).S:=fun h=>hW (.inl h);obtain ⟨a,b⟩:=I.cv i y hy hW1;have hh:=(heapS (wX y (opM p ((i:Int)+1) y).A) (opM p ((i:Int)+1) y).S (fun h=>hW (.inr h))).2;rw [hh];exact ⟨a,fun e=>(b e).imp id (fun h=>h.imp (mono _) id)⟩
theorem zBh {s:za}{w:Int}{x:zj}(c:x.PC=6):zu s w x=((zG s x.G).1,if (zG s x.G).2.Out=1 then {x with G:=(zG s x.G).2,PC:=onW s x.Slot} else {x with G:=(zG s x.G).2}):=by
 unfold zu;rw [zi,zi,zi,zi,zi,zb c]
theorem zGs {p:zd}{s:za}{gh:Gh}{w:Int}{x:zj}(K:WX p s gh w x) (hb:∀o,zP s.T.Black o=true->zP s.T.Marks o=true) {o:Int}(h:znD x o):znD (zu s w x).2 o\/zP (zu s w x).1.T.Marks o=true:=by
 obtain ⟨c,h⟩:=h;obtain ⟨G,gm,gw,g0⟩:=K.p6 c;rw [zBh c];dsimp only;rcases zuN G.md (h.2.2▸G.ob) (hb o) h with h' | h'
 .left;rw [zc (by have:=h'.1;omega)];exact ⟨c,h'⟩
 .exact .inr h'
theorem zEq {p:zd}{nb:Nat}{s:za}(hsl:s.H.Slots=p.H.Slots) (h1:1<=p.H.Slots/\p.H.Slots<=2) {w:Int}{x:zj}(O:WOk p nb w x) (S:zqN p.H.Slots x) :
  zqN p.H.Slots (zu s w x).2/\∀u j,0<=j->zmh x u j->zmh (zu s w x).2 u j\/zW s.H u j=0\/znD (zu s w x).2 (zW s.H u j):=by
 have hpc:=O.pc;have no:∀ {y:zj},y.PC≠5->y.PC≠6->y.PC≠8->zqN p.H.Slots y/\∀u j,0<=j->zmh x u j->zmh y u j\/zW s.H u j=0\/znD y (zW s.H u j) :=
  fun a b c=>⟨⟨fun e=>zm e a,fun e=>zm e b,fun e=>zm e c⟩,fun u j _ _=>.inl (fun e=>by omega)⟩
 have zero:∀ {y:zj},y.PC=5->y.Slot=0->zqN p.H.Slots y/\∀u j,0<=j->zmh x u j->zmh y u j\/zW s.H u j=0\/znD y (zW s.H u j) :=
  fun a b=>⟨⟨fun _=>by omega,fun e=>by omega,fun e=>by omega⟩,fun u j h0 _=>.inl (fun _ _=>by omega)⟩
 have on:∀k:Int,(onW s k=5/\k≠p.H.Slots)\/(onW s k=8/\k=p.H.Slots):=fun k=>by
  unfold onW;rw [hsl];split
  .rename_i e;exact .inr ⟨rfl,e⟩
  .rename_i e;exact .inl ⟨rfl,e⟩
 have lk:∀y:zj,(Yn s.P w y).PC=1\/(Yn s.P w y).PC=2:=fun y=>by unfold Yn;split<;>simp
 by_cases c6:x.PC=6
 .have hs:=S.2.1 c6;rw [zBh c6];dsimp only;split
  .refine ⟨⟨fun e=>?_,fun e=>?_,fun e=>?_⟩,fun u j h0 h=>.inl (fun _ e=>h (.inr (.inl c6)) e)⟩
   .dsimp only at e ⊢;have:=on x.Slot;omega
   .dsimp only at e ⊢;have:=on x.Slot;omega
   .dsimp only at e ⊢;have:=on x.Slot;omega
  .exact ⟨⟨fun e=>zm e (by show ¬x.PC=5;omega),fun _=>hs,fun e=>zm e (by show ¬x.PC=8;omega)⟩,fun u j h0 h=>.inl (fun _ e=>h (.inr (.inl c6)) e)⟩
 have key:∀r:za×zj,zu s w x=r->(zqN p.H.Slots r.2/\∀u j,0<=j->zmh x u j->zmh r.2 u j\/zW s.H u j=0\/znD r.2 (zW s.H u j))->zqN p.H.Slots (zu s w x).2/\∀u j,0<=j->zmh x u j->zmh (zu s w x).2 u j\/zW s.H u j=0\/znD (zu s w x).2 (zW s.H u j):=fun r e h=>by rw [e];exact h
 by_cases c01:x.PC=0\/x.PC=1
 .refine key _ (by unfold zu;rw [zb c01]) ?_;dsimp only;split
  .exact zero rfl rfl
  split
  .have:=lk {x with D:=(yj s.M x.D).2};exact no (by omega) (by omega) (by omega)
  .exact no (by dsimp only;omega) (by dsimp only;omega) (by dsimp only;omega)
 by_cases c2:x.PC=2
 .refine key _ (by unfold zu;rw [zc c01,zb c2]) ?_;dsimp only;split
  .exact no (by dsimp only;omega) (by dsimp only;omega) (by dsimp only;omega)
  split
  .exact no (by show (0:Int)≠5;decide) (by show (0:Int)≠6;decide) (by show (0:Int)≠8;decide)
  .exact no (by dsimp only;omega) (by dsimp only;omega) (by dsimp only;omega)
 by_cases c3:x.PC=3
 .refine key _ (by unfold zu;rw [zc c01,zc c2,zb c3]) ?_;exact no (by dsimp only;omega) (by dsimp only;omega) (by dsimp only;omega)
 by_cases c4:x.PC=4
 .refine key _ (by unfold zu;rw [zc c01,zc c2,zc c3,zb c4]) ?_;dsimp only;split
  .exact no (by dsimp only;omega) (by dsimp only;omega) (by dsimp only;omega)
  .exact no (by dsimp only;omega) (by dsimp only;omega) (by dsimp only;omega)
 by_cases c:x.PC=5
 .have hs:=S.1 c;have ww:wc (x.Slot+1)=x.Slot+1:=yQ;refine key _ (by unfold zu;rw [zc c01,zc c2,zc c3,zc c4,zb c]) ?_;dsimp only;rw [ww];split
  .rename_i hv;refine ⟨⟨fun e=>?_,fun e=>?_,fun e=>?_⟩,fun u j h0 h=>?_⟩
   .dsimp only at e ⊢;have:=on (x.Slot+1);omega
   .dsimp only at e ⊢;have:=on (x.Slot+1);omega
   .dsimp only at e ⊢;have:=on (x.Slot+1);omega
   .by_cases hu:x.Obj=u
    .have hle:=h (.inl c) hu;by_cases hj:j=x.Slot
     .right;left;rw [<-hu,hj];exact hv
     .left;intro _ _;show x.Slot+1<=j;omega
    .left;intro _ e;exact zm e hu
  .rename_i hv;refine ⟨⟨fun e=>zm e (by show ¬(6:Int)=5;decide),fun _=>⟨by show 1<=x.Slot+1;omega,by show x.Slot+1<=_;omega⟩,fun e=>zm e (by show ¬(6:Int)=8;decide)⟩,fun u j h0 h=>?_⟩;by_cases hu:x.Obj=u
   .have hle:=h (.inl c) hu;by_cases hj:j=x.Slot
    .right;right;exact ⟨rfl,rfl,.inl rfl,by rw [<-hu,hj];rfl⟩
    .left;intro _ _;show x.Slot+1<=j;omega
   .left;intro _ e;exact zm e hu
 by_cases c7:x.PC=7
 .refine key _ (by unfold zu;rw [zc c01,zc c2,zc c3,zc c4,zc c,zc c6,zb c7]) ?_;dsimp only;split
  .exact no (by show (0:Int)≠5;decide) (by show (0:Int)≠6;decide) (by show (0:Int)≠8;decide)
  .exact zero rfl rfl
 by_cases c8:x.PC=8
 .refine key _ (by unfold zu;rw [zc c01,zc c2,zc c3,zc c4,zc c,zc c6,zc c7,zb c8]) ?_;exact no (by dsimp only;omega) (by dsimp only;omega) (by dsimp only;omega)
 have c9:x.PC=9:=by omega
 refine key _ (by unfold zu;rw [zc c01,zc c2,zc c3,zc c4,zc c,zc c6,zc c7,zc c8,zb c9]) ?_;exact no (by dsimp only;omega) (by dsimp only;omega) (by dsimp only;omega)
theorem PI.worker {p:zd}(hp:zI p) {nb k:Nat}{s:za}{gh:Gh}(hk:k<4294960000) (G:FG p nb k s gh) {W:Int->Int->Prop}(I:PI p s W) {w:Int}(hw:1<=w/\w<=p.Workers) (hd:s.Done=false):PI p (zS s w) W:=by
 obtain ⟨gh',G',F,x,hx,N,C,hbag,hT⟩:=G.worker hp hk hw hd;have hwl:=G.E.wl;have hsl:=hp.slots;have hi:(w-1).toNat<s.Ws.length:=(zKO.1 hx).1;have ei:(((w-1).toNat:Nat):Int)+1=w:=by omega
 have eS:zS s w={(zu s w x).1 with Ws:=s.Ws.set (w-1).toNat (zu s w x).2}:=by
  unfold zS;rw [zc (by rw [hd];rintro (e | e | e)<;>first | cases e | omega),hx]
 have hWX:=G.W _ x hx;have hWO:=G.E.W _ x hx;rw [ei] at hWX hWO;have hfr:=zkv (s:=s) hWO;have eH:(zS s w).H=s.H:=by rw [eS];show (zu s w x).1.H=_;rw [hfr]
 have eT:(zS s w).T=(zu s w x).1.T:=by rw [eS]
 have eX:(zS s w).Ms=s.Ms:=by rw [eS];show (zu s w x).1.Ms=_;rw [hfr]
 have eW:(zS s w).Ws=s.Ws.set (w-1).toNat (zu s w x).2:=by rw [eS]
 have mono:∀o,zP s.T.Marks o=true->zP (zS s w).T.Marks o=true:=fun o h=>F.mono h;obtain ⟨sl1,sl2⟩:=zEq (s:=s) (w:=w) G.E.H.slots hsl hWO (I.sw _ x hx);have here:(zS s w).Ws[(w-1).toNat]? =some (zu s w x).2:=by rw [eW];exact zLL hi
 have there:∀(i:Nat) y,i≠(w-1).toNat->s.Ws[i]? =some y->(zS s w).Ws[i]? =some y:=fun i y hne h=>by rw [eW,zLf (fun e=>hne e.symm)];exact h
 have back:∀(i:Nat) y,(zS s w).Ws[i]? =some y->(i=(w-1).toNat/\y=(zu s w x).2)\/(i≠(w-1).toNat/\s.Ws[i]? =some y):=fun i y h=>by
  rw [eW] at h;by_cases hne:i=(w-1).toNat
  .subst hne;rw [zLL hi] at h;injection h with h;exact .inl ⟨rfl,h.symm⟩
  .rw [zLf (fun e=>hne e.symm)] at h;exact .inr ⟨hne,h⟩
 have P:zvN s (zS s w) W W:=by
  refine ⟨mono,fun o h=>?_,fun u j hW hj=>.inl ⟨hW,by rw [eH];exact hj,by rw [eH]⟩,fun u j hW hj hg hu=>?_,fun u j hW hj hm0 hm1=>?_⟩
  .rcases h with ⟨i,y,hy,h⟩ | ⟨i,y,hy,h⟩
   .by_cases hne:i=(w-1).toNat
    .subst hne;rw [hx] at hy;injection hy with hy;subst hy;rcases zGs hWX G.B.blk h with h | h
     .right;left;exact ⟨_,_,here,h⟩
     .left;rw [eT];exact h
    .right;left;exact ⟨i,y,there i y hne hy,h⟩
   .right;right;exact ⟨i,y,by rw [eX];exact hy,h⟩
  .have hpos:=YF hj;have hrow:=zDh G.E hj;have htint:yp (zS s w).T u=1:=by
    rcases zvG G F hpos.1.2 hg with h | ⟨_,h⟩
    .exact h
    .exfalso;have hb:=((w8 _ _).1 hg).2;have huu:=(yO s.T.Black (Wu hg) u).2 (.inr rfl);rcases hT with ⟨_,_,e⟩ | ⟨_,_,_,_,e⟩ | ⟨_,_,c,e⟩
     .rw [eT,e] at h;have:=congrArg zn.Black h;exact zm (by rw [this];exact huu) hb
     .rw [eT,e] at h;have:=congrArg zn.Black h;exact zm (by rw [this];exact huu) hb
     .have hob:yp s.T x.Obj=1:=G.grey (zpH hx (by unfold z5;rw [Ve (.inr c)];simp));rw [eT,e] at h;unfold xj at h;rw [zb hob] at h;have hbb:s.T.Black|||bit x.Obj=s.T.Black|||bit u:=congrArg zn.Black h;rw [<-hbb] at huu;rcases YB huu with h2 | h2
      .exact hb h2
      .have hle:=hu.1 _ x hx (.inr (.inr c)) h2.symm;have:=(I.sw _ x hx).2.2 c;omega
   rcases sl2 u j hpos.2.1 (hu.1 _ x hx) with h | h | h
   .left;refine ⟨htint,fun i y hy=>?_,fun i y hy=>hu.2 i y (by rw [<-eX];exact hy)⟩;rcases back i y hy with ⟨_,rfl⟩ | ⟨_,hy⟩
    .exact h
    .exact hu.1 i y hy
   .exact .inr (.inl h)
   .exact .inr (.inr (.inr (.inl ⟨_,_,here,h⟩)))
  .have hpos:=YF hj;refine ⟨zua G F hpos.1.2 hm0 hm1,fun i y hy hpc ho=>?_,fun i y hy hpc ho=>?_⟩
   .rcases back i y hy with ⟨_,rfl⟩ | ⟨_,hy⟩
    .exfalso;rcases hT with ⟨_,_,e⟩ | ⟨_,_,c,_,e⟩ | ⟨_,_,c,e⟩
     .rw [eT,e] at hm1;exact hm0 hm1
     .have h3:(zu s w x).2.Obj=x.Obj:=by rw [zBh c];dsimp only;split<;>rfl
      exact hm0 (by rw [<-ho,h3];exact zxw G hx (.inr (.inl c)))
     .rw [eT,e,(zai _ _).1] at hm1;exact hm0 hm1
    .exact zm (ho▸zxw G hy hpc) hm0
   .rw [eX] at hy;exact zm (ho▸zxB G hy hpc) hm0
 refine ⟨fun o ho=>?_,fun i y hy=>?_,fun i y hy=>I.sx i y (by rw [<-eX];exact hy),fun i y hy hW=>?_⟩
 .have h0:o≠0:=by have:=ho.in;omega
  rcases I.lv o ho with h | h
  .exact .inl (mono o h)
  .exact P.prot h h0
 .rcases back i y hy with ⟨_,rfl⟩ | ⟨_,hy⟩
  .exact sl1
  .exact I.sw i y hy
 .rw [eX] at hy;obtain ⟨a,b⟩:=I.cv i y hy hW;rw [eH];exact ⟨a,fun e=>(b e).imp id (fun h=>h.imp (mono _) id)⟩
theorem PI.same {p:zd}{s s':za}{W:Int->Int->Prop}(I:PI p s W) (eH:s'.H=s.H) (eT:s'.T=s.T) (eW:s'.Ws=s.Ws) (eX:s'.Ms=s.Ms):PI p s' W:=by
 have us:∀u j,US s u j->US s' u j:=fun u j h=>⟨fun i x hx=>h.1 i x (by rw [<-eW];exact hx),fun i x hx=>h.2 i x (by rw [<-eX];exact hx)⟩
 have pd:∀o,zjA s o->zjA s' o:=fun o h=>by
  rcases h with ⟨i,x,hx,h⟩ | ⟨i,x,hx,h⟩
  .exact .inl ⟨i,x,by rw [eW];exact hx,h⟩
  .exact .inr ⟨i,x,by rw [eX];exact hx,h⟩
 have P:zvN s s' W W:=⟨fun o h=>by rw [eT];exact h,fun o h=>.inr (pd o h),fun u j hW hj=>.inl ⟨hW,by rw [eH];exact hj,by rw [eH]⟩,fun u j _ _ hg hu=>.inl ⟨by rw [eT];exact hg,us u j hu⟩,fun u j _ _ h1 h2=>by rw [eT] at h2;exact zm h2 h1⟩
 refine ⟨fun o ho=>?_,fun i x hx=>I.sw i x (by rw [<-eW];exact hx),fun i x hx=>I.sx i x (by rw [<-eX];exact hx),fun i x hx hW=>?_⟩
 .have h0:o≠0:=by have:=ho.in;omega
  rcases I.lv o ho with h | h
  .exact .inl (by rw [eT];exact h)
  .exact P.prot h h0
 .obtain ⟨a,b⟩:=I.cv i x (by rw [<-eX];exact hx) hW;rw [eH,eT];exact ⟨a,b⟩
theorem PI.det {p:zd}{s:za}{W:Int->Int->Prop}(I:PI p s W):PI p (xY s) W:=by
 have hd:=zeW s;exact I.same (by conv=>rhs;rw [<-hd]) (by conv=>rhs;rw [<-hd]) (by conv=>rhs;rw [<-hd]) (by conv=>rhs;rw [<-hd])
theorem zHm {p:zd}(hp:zI p) {nb k:Nat}{s:za}{gh:Gh}{W:Int->Int->Prop}(hk:k<2147480000) (I:EG p nb k s gh) (J:PI p s W) (j:Int):∃gh' W',EG p nb (k+1) (uW s j) gh'/\PI p (uW s j) W'/\zbd s (uW s j):=by
 obtain ⟨gh',I',F⟩:=I.next hp hk j;have fin:(∃W',PI p (uW s j) W')->∃gh' W',EG p nb (k+1) (uW s j) gh'/\PI p (uW s j) W'/\zbd s (uW s j):=fun ⟨W',h⟩=>⟨gh',W',I',h,F⟩
 refine fin ?_;cases hd:s.Done with
 | true=>rw [ziw hd];exact ⟨W,J⟩
 | false =>
  have hwl:=I.G.E.wl;have hml:=I.G.E.ml;unfold uW;split
  .exact ⟨W,J.det⟩
  split
  .by_cases h1:1<=j
   .exact ⟨W,PI.worker hp (by omega) I.G J (by omega) hd⟩
   .have:zS s j=s:=by unfold zS;rw [zb (.inr (.inl (by omega)))]
    rw [this];exact ⟨W,J⟩
  .by_cases h1:1<=j-(s.Ws.length:Int)/\j-(s.Ws.length:Int)<=(s.Ms.length:Int)
   .exact PI.mutator hp (by omega) I.G J (by omega) hd
   .have:zO s (j-(s.Ws.length:Int))=s:=by unfold zO;rw [yf]
    rw [this];exact ⟨W,J⟩
theorem PI.quiet {p:zd}{s:za}{W:Int->Int->Prop}(J:PI p s W) (hg:∀o,yp s.T o≠1) (hpd:∀o,zjA s o->zP s.T.Marks o=true) {o:Int}(ho:Reach p.H (uN p) o):zP s.T.Marks o=true:=by
 have key:∀q,zoq s W q->zP s.T.Marks q=true:=fun q h=>by
  induction h with
  | pend o h=>exact hpd o h
  | white u j o _ _ _ hu _ ih=>exact zm ih hu
  | grey u j o _ _ _ h _=>exact zm h (hg u)
 rcases J.lv o ho with h | h
 .exact h
 .exact key o h
theorem zFt (a b:List Int) (h:a.length<1000000):VA a b=some (decide (a=b),()):=by
 rw [zjL,yq];by_cases hl:a.length=b.length;rotate_left
 .rw [zi,zL (fun e=>hl (by rw [e]))]
 rw [yf];obtain ⟨o,e,ho⟩:=vm (f:=X2) (fun c=>∃i:Nat,i<=a.length/\c=(a,b,(a.length:Int),(i:Int),())/\(a=b↔a.drop i=b.drop i)) (fun c=>a.length-c.2.2.2.1.toNat) (fun o=>(o= .brk ()/\a=b)\/(o= .ret (false,())/\a≠b)) (by
  rintro _ ⟨i,hi,rfl,h⟩;rw [zgt,zq];by_cases c1:(i:Int)<(a.length:Int)
  .have hx:=zKG (show i<a.length by omega);have hy:=zKG (show i<b.length by omega);have dx:=zLm (show i<a.length by omega);have dy:=zLm (show i<b.length by omega);generalize a[i]'(by omega)=x at hx dx;generalize b[i]'(by omega)=y at hy dy;rw [dx,dy,List.cons.injEq] at h;rw [zb c1,xz hx,zKE,xz hy,zKE,yq];by_cases c2:x=y
   .rw [zb c2,yV];refine ⟨_,rfl,⟨i+1,by omega,rfl,h.trans ⟨fun e=>e.2,fun e=>⟨c2,e⟩⟩⟩,?_⟩;show a.length-((i+1:Nat):Int).toNat<a.length-(i:Int).toNat;omega
   .rw [zc c2];exact ⟨_,rfl,.inr ⟨rfl,fun e=>c2 (h.1 e).1⟩⟩
  .rw [zc c1];have:i=a.length:=by omega
   refine ⟨_,rfl,.inl ⟨rfl,h.2 ?_⟩⟩;rw [zMp (by omega),zMp (by omega)]) (a,b,(a.length:Int),0,()) ⟨0,by omega,rfl,Iff.rfl⟩ (by show a.length-0<18446744073709551616;omega)
 rw [e];rcases ho with ⟨rfl,h⟩ | ⟨rfl,h⟩
 .rw [zw h];rfl
 .rw [zL h];rfl
theorem zFJ (a b:List (List Int)) (h:a.length<1000000) (ha:∀x∈a,x.length<1000000):xx a b=some (decide (a=b),()):=by
 rw [Zx,yq];by_cases hl:a.length=b.length;rotate_left
 .rw [zi,zL (fun e=>hl (by rw [e]))]
 rw [yf];obtain ⟨o,e,ho⟩:=vm (f:=xk) (fun c=>∃i:Nat,i<=a.length/\c=(b,a,(a.length:Int),(i:Int),())/\(a=b↔a.drop i=b.drop i)) (fun c=>a.length-c.2.2.2.1.toNat) (fun o=>(o= .brk ()/\a=b)\/(o= .ret (false,())/\a≠b)) (by
  rintro _ ⟨i,hi,rfl,h⟩;rw [Zk,zq];by_cases c1:(i:Int)<(a.length:Int)
  .have hx:=zKG (show i<a.length by omega);have hy:=zKG (show i<b.length by omega);have dx:=zLm (show i<a.length by omega);have dy:=zLm (show i<b.length by omega);have hm:=ha _ (zK1 (show i<a.length by omega));generalize a[i]'(by omega)=x at hx dx hm;generalize b[i]'(by omega)=y at hy dy;rw [dx,dy,List.cons.injEq] at h;rw [zb c1,xz hx,zKE,xz hy,zKE,zFt x y hm,zKE];dsimp only;rw [yq];by_cases c2:x=y
   .rw [zb c2,yV];refine ⟨_,rfl,⟨i+1,by omega,rfl,h.trans ⟨fun e=>e.2,fun e=>⟨c2,e⟩⟩⟩,?_⟩;show a.length-((i+1:Nat):Int).toNat<a.length-(i:Int).toNat;omega
   .rw [zc c2];exact ⟨_,rfl,.inr ⟨rfl,fun e=>c2 (h.1 e).1⟩⟩
  .rw [zc c1];have:i=a.length:=by omega
   refine ⟨_,rfl,.inl ⟨rfl,h.2 ?_⟩⟩;rw [zMp (by omega),zMp (by omega)]) (b,a,(a.length:Int),0,()) ⟨0,by omega,rfl,Iff.rfl⟩ (by show a.length-0<18446744073709551616;omega)
 rw [e];rcases ho with ⟨rfl,h⟩ | ⟨rfl,h⟩
 .rw [zw h];rfl
 .rw [zL h];rfl
theorem zzb (a b:zr) (h:a.Objs.length<1000000) (ha:∀x∈a.Objs,x.length<1000000):zh8 a b=some (decide (a.Slots=b.Slots)&&decide (a.Objs=b.Objs),()):=by
 rw [zxS,zFJ _ _ h ha,zKE];cases decide (a.Slots=b.Slots)<;>rfl
def YN (k:Int):List Int->List Int->Int×Int->Int×Int
 | x::l,y::m,r=>YN k l m (if x=y then r else (k+1,r.2+1))
 | _,_,r=>r
def zcU:Int->List (List Int)->List (List Int)->Int×Int->Int×Int
 | k,x::l,y::m,r=>zcU (k+1) l m (YN k x y r)
 | _,_,_,r=>r
theorem zqI (k:Int):∀(l m:List Int) (r:Int×Int),r.2<=(YN k l m r).2/\(YN k l m r).2<=r.2+(l.length:Int)
 | x::l,y::m,r=>by
  rw [YN,zKV];by_cases h:x=y
  .rw [zb h];have:=zqI k l m r;omega
  .rw [zc h];have h1:r.2+1<=(YN k l m (k+1,r.2+1)).2:=(zqI k l m (k+1,r.2+1)).1;have h2:(YN k l m (k+1,r.2+1)).2<=r.2+1+(l.length:Int):=(zqI k l m (k+1,r.2+1)).2;omega
 | [],_,r=>by unfold YN;simp
 | x::l,[],r=>by
  have h:YN k (x::l) [] r=r:=rfl;rw [h,zKV];omega
theorem zCX {o n k:Int}{A:List (List Int)}{N:Int}{x y:List Int}{b:zr}(hk:0<=k/\k<1000000) (hn:0<=n/\n<1000000000) (hy:idx b.Objs k=some y) (hl:x.length=y.length) (hx:x.length<1000) :
  yc UW (o,n,k,A,N,k,x,(x.length:Int),0,b,())=some (.brk ((YN k x y (o,n)).1,(YN k x y (o,n)).2,A,N,k,b,())):=by
 obtain ⟨q,e,ho⟩:=vm (f:=UW) (fun a=>∃(i:Nat) (r:Int×Int),i<=x.length/\a=(r.1,r.2,k,A,N,k,x,(x.length:Int),(i:Int),b,())/\YN k x y (o,n)=YN k (x.drop i) (y.drop i) r/\0<=r.2/\r.2<=n+(i:Int)) (fun a=>x.length-a.2.2.2.2.2.2.2.2.1.toNat) (fun s=>s= .brk ((YN k x y (o,n)).1,(YN k x y (o,n)).2,A,N,k,b,())) (by
  rintro _ ⟨i,r,hi,rfl,h,r1,r2⟩;rw [zpT,zq];by_cases c1:(i:Int)<(x.length:Int)
  .have h1:=zKG (show i<x.length by omega);have h2:=zKG (show i<y.length by omega);have d1:=zLm (show i<x.length by omega);have d2:=zLm (show i<y.length by omega);generalize x[i]'(by omega)=u at h1 d1;generalize y[i]'(by omega)=v at h2 d2;rw [d1,d2] at h;rw [zb c1,xz h1,zKE,hy,zKE,xz h2,zKE,yq,yV,ya (a:=k+1) (by omega) (by omega),ya (a:=r.2+1) (by omega) (by omega)];by_cases c2:u=v
   .rw [zb c2];refine ⟨_,rfl,⟨i+1,r,by omega,rfl,?_,r1,by omega⟩,?_⟩
    .rw [h];show YN k (u::x.drop (i+1)) (v::y.drop (i+1)) r=_;rw [YN,zb c2]
    .show x.length-((i+1:Nat):Int).toNat<x.length-(i:Int).toNat;omega
   .rw [zc c2];refine ⟨_,rfl,⟨i+1,(k+1,r.2+1),by omega,rfl,?_,by dsimp only;omega,by dsimp only;omega⟩,?_⟩
    .rw [h];show YN k (u::x.drop (i+1)) (v::y.drop (i+1)) r=_;rw [YN,zc c2]
    .show x.length-((i+1:Nat):Int).toNat<x.length-(i:Int).toNat;omega
  .rw [zc c1];refine ⟨_,rfl,?_⟩;rw [h,zMp (by omega)];rfl) (o,n,k,A,N,k,x,(x.length:Int),0,b,()) ⟨0,(o,n),by omega,rfl,rfl,hn.1,by omega⟩ (by show x.length-0<18446744073709551616;omega)
 rw [e,ho]
def Y7 (a b:zr):Int:=if a.Slots=b.Slots/\a.Objs.length=b.Objs.length then (if (zcU 0 a.Objs b.Objs (0,0)).2=1 then (zcU 0 a.Objs b.Objs (0,0)).1 else 0) else 0
theorem zC2 {a b:zr}(ha:a.Objs.length<=64) (h1:∀x∈a.Objs,(x.length:Int)=a.Slots) (h2:∀x∈b.Objs,(x.length:Int)=b.Slots) (hs:a.Slots<=4):VW a b=some (Y7 a b,()):=by
 rw [zvd,yq];unfold Y7;by_cases c1:a.Slots=b.Slots;rotate_left
 .rw [zc c1,zc (fun e=>c1 e.1)]
 rw [zb c1,yq];by_cases c2:a.Objs.length=b.Objs.length;rotate_left
 .rw [zi,zc (fun e=>c2 e.2)]
 rw [yf,zb ⟨c1,c2⟩];obtain ⟨q,e,ho⟩:=vm (f:=zek) (fun c=>∃(i:Nat) (r:Int×Int),i<=a.Objs.length/\c=(r.1,r.2,a.Objs,(a.Objs.length:Int),(i:Int),b,())/\zcU 0 a.Objs b.Objs (0,0)=zcU (i:Int) (a.Objs.drop i) (b.Objs.drop i) r/\0<=r.2/\r.2<=4*(i:Int)) (fun c=>a.Objs.length-c.2.2.2.2.1.toNat) (fun s=>s= .brk ((zcU 0 a.Objs b.Objs (0,0)).1,(zcU 0 a.Objs b.Objs (0,0)).2,())) (by
  rintro _ ⟨i,r,hi,rfl,h,r1,r2⟩;rw [zre,zq];by_cases c:(i:Int)<(a.Objs.length:Int)
  .have g1:=zKG (show i<a.Objs.length by omega);have g2:=zKG (show i<b.Objs.length by omega);have d1:=zLm (show i<a.Objs.length by omega);have d2:=zLm (show i<b.Objs.length by omega);have l1:=h1 _ (zK1 (show i<a.Objs.length by omega));have l2:=h2 _ (zK1 (show i<b.Objs.length by omega));generalize a.Objs[i]'(by omega)=x at g1 d1 l1;generalize b.Objs[i]'(by omega)=y at g2 d2 l2;rw [d1,d2] at h;have hlow:=zqI (i:Int) x y r;rw [zb c,xz g1,zKE,xz g2,zKE,yq,yf,zCX (by omega) (by omega) (xz g2) (by omega) (by omega),zKE];dsimp only;rw [yV];refine ⟨_,rfl,⟨i+1,YN (i:Int) x y (r.1,r.2),by omega,rfl,?_,?_,?_⟩,?_⟩
   .rw [h,show ((i+1:Nat):Int)=(i:Int)+1 by omega];rfl
   .show 0<=(YN (i:Int) x y r).2;omega
   .show (YN (i:Int) x y r).2<=4*((i+1:Nat):Int);omega
   .show a.Objs.length-((i+1:Nat):Int).toNat<a.Objs.length-(i:Int).toNat;omega
  .rw [zc c];refine ⟨_,rfl,?_⟩;rw [h,zMp (by omega)];rfl) (0,0,a.Objs,(a.Objs.length:Int),0,b,()) ⟨0,(0,0),by omega,rfl,rfl,by decide,by decide⟩ (by show a.Objs.length-0<18446744073709551616;omega)
 rw [e,ho,zKE];dsimp only;rw [yq];split<;>rfl
theorem znG (k:Int):∀(l:List Int) (r:Int×Int),YN k l l r=r
 | [],r=>rfl
 | x::l,r=>by rw [YN,zb rfl,znG k l r]
theorem zqs:∀(l:List (List Int)) (k:Int) (r:Int×Int),zcU k l l r=r
 | [],k,r=>rfl
 | x::l,k,r=>by rw [zcU,znG,zqs l]
theorem zBL (k:Int) {v:Int}:∀(l:List Int) (i:Nat) (r:Int×Int),i<l.length->l.getD i 0≠v->YN k l (l.set i v) r=(k+1,r.2+1)
 | [],i,r,h,_=>by simp at h
 | x::l,0,r,_,hv=>by
  have hv:x≠v:=by simpa using hv
  rw [List.set_cons_zero,YN,zc hv,znG]
 | x::l,i+1,r,h,hv=>by
  rw [List.set_cons_succ,YN,zb rfl];exact zBL k l i r (by simpa using h) (by simpa using hv)
theorem zyT {y:List Int}:∀(l:List (List Int)) (j:Nat) (k:Int) (r:Int×Int),j<l.length->zcU k l (l.set j y) r=YN (k+(j:Int)) (l.getD j []) y r
 | [],j,k,r,h=>by simp at h
 | x::l,0,k,r,_=>by
  rw [List.set_cons_zero,zcU,zqs];simp
 | x::l,j+1,k,r,h=>by
  rw [List.set_cons_succ,zcU,znG,zyT l j (k+1) r (by simpa using h)];congr 1
  .omega
theorem zCW {h:zr}{o i v:Int}(hs:yz h o i=true) (hv:zW h o i≠v) (hp:xM h o i v={h with Objs:=h.Objs.set (o-1).toNat ((zR h o).set i.toNat v)}):Y7 h (xM h o i v)=o/\(xM h o i v).Objs≠h.Objs:=by
 have hb:=hs;unfold yz at hb;simp only [zKF,decide_eq_true_eq] at hb;obtain ⟨⟨⟨b1,b2⟩,b3⟩,b4⟩:=hb;have hg:zW h o i=(zR h o).getD i.toNat 0:=by unfold zW;rw [zb hs]
 rw [hg] at hv;have key:zcU 0 h.Objs (xM h o i v).Objs (0,0)=(o,1):=by
  rw [hp];dsimp only;rw [zyT _ _ _ _ (by omega)];show YN (0+((o-1).toNat:Int)) (zR h o) ((zR h o).set i.toNat v) (0,0)=_;rw [zBL _ _ _ _ (by omega) hv];congr 1;omega
 have hlen:h.Objs.length=(xM h o i v).Objs.length:=by rw [hp];simp
 refine ⟨?_,fun e=>?_⟩
 .unfold Y7;rw [zb ⟨by rw [hp],hlen⟩,key,zb rfl]
 .rw [e,zqs] at key;cases key
def Zp (a b:za):Int×Int :=
 if a.H.Slots=b.H.Slots/\a.H.Objs=b.H.Objs then (if (vo a.T b.T).1<0\/2<(vo a.T b.T).1 then (-1,0) else vo a.T b.T)
 else if (a.H.Objs.length<64/\(vo a.T b.T).1=3/\(vo a.T b.T).2=(a.H.Objs.length:Int)+1)/\(yP a.H).Slots=b.H.Slots/\(yP a.H).Objs=b.H.Objs then (3,(vo a.T b.T).2)
 else if (vo a.T b.T).1=0/\0<Y7 a.H b.H then (4,Y7 a.H b.H) else (-1,0)
theorem zgZ {p:zd}(hp:zI p) {a b:za}(ha:HOk p a.H) (hb:HOk p b.H):Ub a b=some ((Zp a b).1,(Zp a b).2,()):=by
 have hs:=hp.slots;have hn:=hp.n;have hmo:=hp.most;have a1:=ha.n;have b1:=hb.n;have sa:=ha.slots;have sm:∀x∈a.H.Objs,x.length<1000000:=fun x hx=>by have:=(ha.objs x hx).1;omega
 have hne:a.H.Objs≠[]:=fun e=>by
  have h:=congrArg List.length e;have h:a.H.Objs.length=0:=h;omega
 have hroom:ZB a.H 64=true:=by unfold ZB;simp;omega
 have sm2:∀x∈(yP a.H).Objs,x.length<1000000:=fun x hx=>by
  rcases zK4.1 (show x∈a.H.Objs++[List.replicate a.H.Slots.toNat 0] from hx) with hx | hx
  .exact sm x hx
  .rw [zLr.1 hx,zLl];omega
 have hw:=zC2 (a:=a.H) (b:=b.H) (by omega) (fun x hx=>(ha.objs x hx).1) (fun x hx=>(hb.objs x hx).1) (by omega);rw [zzT,zAq,zKE,zzb _ _ (by omega) sm,zKE,zvs ⟨by omega,by omega⟩ (by omega) ha.objs hne,zb hroom];dsimp only;unfold Zp;generalize hk:(vo a.T b.T).1=k;generalize ho:(vo a.T b.T).2=o;have hko:vo a.T b.T=(k,o):=by rw [<-hk,<-ho]
 by_cases c1:a.H.Slots=b.H.Slots/\a.H.Objs=b.H.Objs
 .rw [zw c1.1,zw c1.2,Bool.and_self,zA,zb c1,zq];by_cases k1:k<0
  .rw [zb k1,zb (.inl k1)]
  rw [zc k1,zq];by_cases k2:2<k
  .rw [zb k2,zb (.inr k2)]
  .rw [zc k2,zi,hko]
 .have e1:(decide (a.H.Slots=b.H.Slots)&&decide (a.H.Objs=b.H.Objs))=false:=by
   rw [Bool.eq_false_iff];intro e;simp only [zKF,decide_eq_true_eq] at e;exact c1 e
  rw [e1,zM,zc c1,zKE];dsimp only;rw [zw rfl,zA,zzb _ _ (by rw [ZN];omega) sm2,zKE,hw,zKE];dsimp only;have fin:(bif decide (k=0) then (bif decide (0<Y7 a.H b.H) then some (4,Y7 a.H b.H,()) else some (-1,0,())) else some (-1,0,()):Option (Int×Int×Unit))=some ((if k=0/\0<Y7 a.H b.H then ((4:Int),Y7 a.H b.H) else (-1,0)).1,(if k=0/\0<Y7 a.H b.H then ((4:Int),Y7 a.H b.H) else (-1,0)).2,()):=by
   rw [zq,zq];by_cases k0:k=0
   .by_cases w0:0<Y7 a.H b.H
    .rw [zb k0,zb w0,zb ⟨k0,w0⟩]
    .rw [zb k0,zc w0,zc (fun e=>w0 e.2)]
   .rw [zc k0,zc (fun e=>k0 e.1)]
  rw [fin,zq,zq];by_cases k3:k=3
  .rw [zb k3];by_cases o3:o=(a.H.Objs.length:Int)+1
   .rw [zb o3];by_cases c2:(yP a.H).Slots=b.H.Slots/\(yP a.H).Objs=b.H.Objs
    .rw [zw c2.1,zw c2.2,Bool.and_self,zA,zb ⟨⟨by omega,k3,o3⟩,c2⟩]
    .have e2:(decide ((yP a.H).Slots=b.H.Slots)&&decide ((yP a.H).Objs=b.H.Objs))=false:=by
      rw [Bool.eq_false_iff];intro e;simp only [zKF,decide_eq_true_eq] at e;exact c2 e
     have n3: ¬((a.H.Objs.length<64/\k=3/\o=(a.H.Objs.length:Int)+1)/\(yP a.H).Slots=b.H.Slots/\(yP a.H).Objs=b.H.Objs):=fun e=>c2 e.2;rw [e2,zM,zc n3]
   .have n3: ¬((a.H.Objs.length<64/\k=3/\o=(a.H.Objs.length:Int)+1)/\(yP a.H).Slots=b.H.Slots/\(yP a.H).Objs=b.H.Objs):=fun e=>o3 e.1.2.2;rw [zc o3,zc n3]
  .have n3: ¬((a.H.Objs.length<64/\k=3/\o=(a.H.Objs.length:Int)+1)/\(yP a.H).Slots=b.H.Slots/\(yP a.H).Objs=b.H.Objs):=fun e=>k3 e.1.2.1;rw [zc k3,zc n3]
inductive zEK (s s':za):Prop
 | none (h1:s'.T=s.T) (h2:s'.H=s.H)
 | shade (o:Int) (hr:1<=o/\o<=64) (hm: ¬zP s.T.Marks o=true) (hT:s'.T={s.T with Marks:=s.T.Marks|||bit o}) (hH:s'.H=s.H) (hp:zjA s o)
 | scan (o:Int) (hg:yp s.T o=1) (hT:s'.T={s.T with Black:=s.T.Black|||bit o}) (hH:s'.H=s.H)
 | alloc (hH:s'.H=yP s.H) (hl:(s.H.Objs.length:Int)<9) (hT:s'.T=⟨s.T.Marks|||bit ((s.H.Objs.length:Int)+1),s.T.Black|||bit ((s.H.Objs.length:Int)+1)⟩)
 | write (o i v:Int) (hs:yz s.H o i=true) (hv:zW s.H o i≠v) (hT:s'.T=s.T) (hH:s'.H=xM s.H o i v) (hp:xM s.H o i v={s.H with Objs:=s.H.Objs.set (o-1).toNat ((zR s.H o).set i.toNat v)})
theorem zzS {t:zn}{n:Int}(hn:1<=n/\n<=64) (nm: ¬zP t.Marks n=true) (nb: ¬zP t.Black n=true):vo t ⟨t.Marks|||bit n,t.Black|||bit n⟩=(3,n):=by
 have hne:t≠⟨t.Marks|||bit n,t.Black|||bit n⟩:=fun e=>nm (by rw [e];exact (xq _ _ _).2 (.inr (by have:=(yO 0#64 hn n).2 (.inr rfl);simpa using this)));have hb0:t.Black≠t.Black|||bit n:=fun e=>nb (by rw [e];exact (yO _ hn _).2 (.inr rfl));have hm0:t.Marks≠t.Marks|||bit n:=fun e=>nm (by rw [e];exact (yO _ hn _).2 (.inr rfl));have no1:∀q,¬((shade t q).2=true/\(shade t q).1=⟨t.Marks|||bit n,t.Black|||bit n⟩):=fun q e=>by
  rw [(zc5 e.1).1] at e;exact hb0 (congrArg zn.Black e.2)
 have no2:∀q,¬(yp t q=1/\xj t q=⟨t.Marks|||bit n,t.Black|||bit n⟩):=fun q e=>by
  have:=congrArg zn.Marks e.2;rw [(zai t q).1] at this;exact hm0 this
 have yes:(Zr t n).2=true/\(Zr t n).1=⟨t.Marks|||bit n,t.Black|||bit n⟩:=by
  unfold Zr;have hs:=zAW hn nm nb;have ht1:yp {t with Marks:=t.Marks|||bit n} n=1:=(w8 _ _).2 ⟨(yO _ hn _).2 (.inr rfl),nb⟩;rw [hs];dsimp only;rw [zb rfl];refine ⟨zw ht1,?_⟩;dsimp only;unfold xj;rw [zb ht1]
 unfold vo;rw [zc hne];rw [znz (j:=(n-1).toNat) (r:=(3,n)) (zK7.2 (by omega)) (fun i hi hj=>?_) ?_]
 .rfl
 .unfold zb1;rw [zc (no1 _),zc (no2 _),show (((n-1).toNat:Nat):Int)+1=n by omega,zb yes]
 .unfold zb1;rw [zc (no1 _),zc (no2 _),zc];rintro ⟨e1,e2⟩;unfold Zr at e1 e2;split at e1
  .rename_i hsh;rw [zb hsh] at e2;have hsm:=zc5 hsh;have:=congrArg zn.Marks e2;dsimp only at this;rw [(zai _ _).1,hsm.1] at this;have:=zAl (fun h=>hm0 h.symm) this;have hi:=zK7.1 hi;omega
  .cases e1
theorem zF2 {h:zr}{o i:Int}(hs:yz h o i=true):1<=o:=by
 unfold yz at hs;simp only [zKF,decide_eq_true_eq] at hs;exact hs.1.1.1
theorem zIA {p:zd}(hp:zI p) {nb k:Nat}{s s':za}{gh:Gh}(G:FG p nb k s gh) (K:zEK s s') :
  (Zp s s'=(0,0)/\s'.T=s.T/\s'.H=s.H)\/(∃o,Zp s s'=(1,o)/\1<=o/\yp s.T o=0/\yp s'.T o=1/\s'.H=s.H/\zjA s o)\/(∃o,Zp s s'=(2,o)/\1<=o/\yp s.T o=1/\yp s'.T o=2/\s'.H=s.H) \/
  (Zp s s'=(3,(s.H.Objs.length:Int)+1)/\s'.H=yP s.H/\yp s'.T ((s.H.Objs.length:Int)+1)=2)\/(∃o,Zp s s'=(4,o)/\1<=o/\s'.T=s.T/\s'.H.Objs.length=s.H.Objs.length/\s'.H.Objs≠s.H.Objs):=by
 have hN:=G.E.H.n;have hn:=hp.n;have hmo:=hp.most;cases K with
 | none h1 h2 =>
  refine .inl ⟨?_,h1,h2⟩;unfold Zp;rw [h2,zb ⟨rfl,rfl⟩,h1,zsc,zc (by decide)]
 | shade o hr hm hT hH hpd =>
  have nb: ¬zP s.T.Black o=true:=fun h=>hm (G.B.blk _ h);refine .inr (.inl ⟨o,?_,hr.1,?_,?_,hH,hpd⟩)
  .unfold Zp;rw [hH,zb ⟨rfl,rfl⟩,hT,zzQ hr hm nb,zc (show ¬((1:Int)<0\/2<(1:Int)) by decide)]
  .unfold yp;rw [zc (fun h=>hm ((vr _ _ _).1 h).1),zc hm]
  .rw [hT];exact (w8 _ _).2 ⟨(yO _ hr _).2 (.inr rfl),nb⟩
 | scan o hg hT hH =>
  have hr:=Wu hg;refine .inr (.inr (.inl ⟨o,?_,hr.1,hg,?_,hH⟩))
  .unfold Zp;rw [hH,zb ⟨rfl,rfl⟩,hT,zBA hg hr,zc (show ¬((2:Int)<0\/2<(2:Int)) by decide)]
  .rw [hT];exact (zsV _ _).2 ⟨((w8 _ _).1 hg).1,(yO _ hr _).2 (.inr rfl)⟩
 | alloc hH hl hT =>
  have nm: ¬zP s.T.Marks ((s.H.Objs.length:Int)+1)=true:=fun e=>by have:=G.mrk _ e;omega
  have nb: ¬zP s.T.Black ((s.H.Objs.length:Int)+1)=true:=fun e=>nm (G.B.blk _ e);have hbt:=zzS (t:=s.T) (n:=(s.H.Objs.length:Int)+1) (by omega) nm nb;refine .inr (.inr (.inr (.inl ⟨?_,hH,?_⟩)))
  .unfold Zp;rw [zc (fun e=>by have:=congrArg List.length e.2;rw [hH,ZN] at this;omega),hT,hbt,hH,zb ⟨⟨by omega,rfl,rfl⟩,rfl,rfl⟩]
  .rw [hT];exact (zsV _ _).2 ⟨(yO _ (by omega) _).2 (.inr rfl),(yO _ (by omega) _).2 (.inr rfl)⟩
 | write o i v hs hv hT hH hput =>
  obtain ⟨w1,w2⟩:=zCW hs hv hput;have ho:=zF2 hs;refine .inr (.inr (.inr (.inr ⟨o,?_,ho,hT,by rw [hH,VV],by rw [hH];exact w2⟩)));unfold Zp;rw [zc (fun e=>by rw [hH] at e;exact w2 e.2.symm),hT,zsc,zc (fun e=>by have:=e.1.2.1;cases this),hH,w1,zb ⟨rfl,by omega⟩]
theorem zHu (s:za) (w:Int) (x:zj):(zu s w x).1.L=if x.PC=8 then Ui s.L 0 else s.L:=by
 by_cases h8:x.PC=8
 .rw [zb h8];unfold zu;rw [zi,zi,zi,zi,zi,zi,zi,zb h8]
 .rw [zc h8];unfold zu;split
  .rfl
  split
  .rfl
  split
  .rfl
  split
  .rfl
  split
  .rfl
  split
  .obtain ⟨m,b,t,wk,f,e,_⟩:=zfc s x.G;dsimp only;rw [e]
  split
  .rfl
  split<;>rfl
theorem zDE (s:za) (m:Int) (x:ze) :
  (x.PC=38/\(zt s m x).1.L=Ui s.L m) \/
  (x.PC≠38/\(zt s m x).1.H.Objs.length=s.H.Objs.length/\((zt s m x).1.L=s.L\/∃w,(zt s m x).1.L=(U3 s.L m w).1)) \/
  (x.PC=30/\(zt s m x).1.H=yP s.H/\(zt s m x).1.L=V1 s.L m s.P.Price/\zcC s.L m s.P.Price s.P.Limit=true/\ZB s.H s.P.Most=true):=by
 by_cases c38:x.PC=38
 .refine .inl ⟨c38,?_⟩;unfold zt;rw [zi,zi,zi,zi,zi,zi,zi,zi,zi,zi,zi,zi,zi,zi,zi,zi,zi,zb c38];rfl
 refine .inr ?_;refine xZ (motive:=fun r=>(x.PC≠38/\r.1.H.Objs.length=s.H.Objs.length/\(r.1.L=s.L\/∃w,r.1.L=(U3 s.L m w).1))\/(x.PC=30/\r.1.H=yP s.H/\r.1.L=V1 s.L m s.P.Price/\zcC s.L m s.P.Price s.P.Limit=true/\ZB s.H s.P.Most=true)) s m x ?_ ?_ ?_ ?_ ?_ ?_ ?_ ?_ ?_ ?_ ?_ ?_ ?_ ?_ ?_ ?_ ?_ ?_ ?_ ?_
 .exact fun _=>.inl ⟨c38,rfl,.inl rfl⟩
 .exact fun _=>.inl ⟨c38,rfl,.inl rfl⟩
 .exact fun _=>.inl ⟨c38,rfl,.inl rfl⟩
 .intro _;unfold mu3;exact .inl ⟨c38,by rw [uf],.inl (by rw [uf])⟩
 .exact fun _=>.inl ⟨c38,rfl,.inl rfl⟩
 .exact fun _=>.inl ⟨c38,rfl,.inl rfl⟩
 .exact fun _=>.inl ⟨c38,rfl,.inl rfl⟩
 .exact fun _=>.inl ⟨c38,rfl,.inl rfl⟩
 .exact fun _=>.inl ⟨c38,VV _ _ _ _,.inl rfl⟩
 .intro c;unfold UN;split
  .split
   .rename_i h1 h2;exact .inr ⟨c,rfl,rfl,h1,h2⟩
   .exact .inl ⟨c38,rfl,.inl rfl⟩
  .exact .inl ⟨c38,rfl,.inl rfl⟩
 .exact fun _=>.inl ⟨c38,rfl,.inr ⟨_,rfl⟩⟩
 .exact fun _=>.inl ⟨c38,rfl,.inl rfl⟩
 .exact fun _=>.inl ⟨c38,rfl,.inl rfl⟩
 .exact fun _=>.inl ⟨c38,rfl,.inl rfl⟩
 .exact fun _=>.inl ⟨c38,rfl,.inl rfl⟩
 .exact fun _=>.inl ⟨c38,rfl,.inl rfl⟩
 .intro _;unfold za5;exact .inl ⟨c38,by rw [uf],.inl (by rw [uf])⟩
 .exact fun c=>zm c c38
 .exact fun _=>.inl ⟨c38,rfl,.inl rfl⟩
 .exact .inl ⟨c38,rfl,.inl rfl⟩
structure LdG (p:zd) (c d:Int) (l:zx):Prop where
 len:(l.Bal.length:Int)=p.Mutators
 sc:l.Scanned=c
 sp:l.Spent=p.Price*d
 pool:0<=l.Pool
 bal:∀b∈l.Bal,-p.Limit<=b
 sum:l.Pool+l.Bal.sum=c-p.Price*d
theorem zDB {a:Int}(ha:0<=a):∀ {l:List Int},(∀b∈l,-a<=b)-> -(a*(l.length:Int))<=l.sum/\∀b∈l,b<=l.sum+a*(l.length:Int)
 | [],_=>⟨by simp,fun b hb=>by cases hb⟩
 | x::l,h=>by
  obtain ⟨i1,i2⟩:=zDB ha (l:=l) (fun b hb=>h b (zKN _ hb));have hx:=h x (zK2 ..);have e:a*((x::l).length:Int)=a*(l.length:Int)+a:=by rw [zKV,Int.natCast_add,Int.mul_add];simp
  rw [zLE,e];refine ⟨by omega,fun b hb=>?_⟩;rcases zKW.1 hb with rfl | hb
  .omega
  .have:=i2 b hb;omega
theorem LdG.low {p:zd}(hp:zI p) {c d:Int}(hc:0<=c/\c<=9) (hd:0<=d/\d<=9) {l:zx}(I:LdG p c d l):(0<=p.Price*d/\p.Price*d<=30)/\l.Pool<=20/\∀b∈l.Bal,-3<=b/\b<=20:=by
 have hl:=hp.limit;have hm:=hp.mt;have hpr:=zBm hp.price (d:=d) (by omega);obtain ⟨s1,s2⟩:=zDB hl.1 I.bal;have hlen:=I.len;rw [hlen] at s1 s2;have hb:0<=p.Limit*p.Mutators/\p.Limit*p.Mutators<=6:=by
  refine ⟨Int.mul_nonneg hl.1 hm.1,?_⟩;have:=Int.mul_le_mul hl.2 hm.2 hm.1 (by decide:(0:Int)<=3);omega
 have hs:=I.sum;have hpo:=I.pool;refine ⟨hpr,by omega,fun b hb'=>?_⟩;have:=s2 b hb';have:=I.bal b hb';omega
theorem zxE {l:List Int}{i:Nat}(h:i<l.length):l.getD i 0∈l:=by
 rw [zKH,zKG h];exact zK1 h
theorem LdG.earn {p:zd}(hp:zI p) {c d:Int}(hc:0<=c/\c<=9) (hd:0<=d/\d<=9) {l:zx}(I:LdG p c d l) (w:Int):LdG p (c+1) d (Ui l w):=by
 obtain ⟨h1,h2,h3⟩:=I.low hp hc hd;have hs:=I.sc;have hsum:=I.sum;unfold Ui;rw [yQ (a:=l.Scanned+1) (by omega) (by omega)];split
 .rename_i hw;have hm:=zxE (l:=l.Bal) (i:=(w-1).toNat) (by omega);have hb:=h3 _ hm;have hb':=I.bal _ hm;rw [yQ];refine ⟨by dsimp only;rw [zK3];exact I.len,by dsimp only;omega,I.sp,I.pool,fun b h=>?_,?_⟩
  .rcases zLo h with h | rfl
   .exact I.bal b h
   .omega
  .dsimp only;rw [zhE _ _ _ (by omega)];omega
 .have hpo:=I.pool;rw [yQ];exact ⟨I.len,by dsimp only;omega,I.sp,by dsimp only;omega,I.bal,by dsimp only;omega⟩
theorem LdG.take {p:zd}(hp:zI p) {c d:Int}(hc:0<=c/\c<=9) (hd:0<=d/\d<=9) {l:zx}(I:LdG p c d l) (m w:Int):LdG p c d (U3 l m w).1:=by
 obtain ⟨h1,h2,h3⟩:=I.low hp hc hd;have hsum:=I.sum;have hpo:=I.pool;unfold U3;split
 .rename_i hw;obtain ⟨ht,h0⟩:=hw;unfold V7 at ht;simp only [zKF,decide_eq_true_eq] at ht;have hmn:zgM w l.Pool<=l.Pool:=by unfold zgM;split<;>omega
  have hm:=zxE (l:=l.Bal) (i:=(m-1).toNat) (by omega);have hb:=h3 _ hm;have hb':=I.bal _ hm;unfold UT;generalize zgM w l.Pool=n at h0 hmn;rw [yQ (a:=l.Pool-n) (by omega) (by omega),yQ];refine ⟨by dsimp only;rw [zK3];exact I.len,I.sc,I.sp,by dsimp only;omega,fun b h=>?_,?_⟩
  .rcases zLo h with h | rfl
   .exact I.bal b h
   .omega
  .dsimp only;rw [zhE _ _ _ (by omega)];omega
 .exact I
theorem LdG.spend {p:zd}(hp:zI p) {c d:Int}(hc:0<=c/\c<=9) (hd:0<=d/\d<=9) {l:zx}(I:LdG p c d l) {m:Int}(h:zcC l m p.Price p.Limit=true):LdG p c (d+1) (V1 l m p.Price):=by
 obtain ⟨h1,h2,h3⟩:=I.low hp hc hd;have hsum:=I.sum;have hpo:=I.pool;have hl:=hp.limit;have hpr:=hp.price;have e1:=I.sp;unfold zcC zar V7 at h;simp only [zKF,decide_eq_true_eq] at h;obtain ⟨⟨⟨⟨⟨⟨m1,m2⟩,_⟩,_⟩,_⟩,_⟩,h⟩:=h;have hm:=zxE (l:=l.Bal) (i:=(m-1).toNat) (by omega);have hb:=h3 _ hm;unfold UT at h;rw [yQ,yQ] at h;unfold V1 UT;rw [yQ,yQ];refine ⟨by dsimp only;rw [zK3];exact I.len,I.sc,by dsimp only;rw [zss hpr];omega,I.pool,fun b hb'=>?_,?_⟩
 .rcases zLo hb' with h2 | rfl
  .exact I.bal b h2
  .omega
 .dsimp only;rw [zhE _ _ _ (by omega),zss hpr];omega
def YT (p:zd) (s:za):BitVec 64:=s.T.Black&&&xK (p.H.Objs.length:Int)
structure PD (p:zd) (s:za):Prop where
 L:LdG p (cnt (YT p s)) ((s.H.Objs.length:Int)-(p.H.Objs.length:Int)) s.L
theorem zEu {p:zd}(hp:zI p) (s:za):∀o,zP (YT p s) o=true->o<=9:=fun o ho=>by
 have hn:=hp.n;have:=(Yv (n:=p.H.Objs.length) (by omega) o).1 ((vr _ _ _).1 ho).2;omega
theorem zwC (s:BitVec 64):0<=cnt s:=by
 unfold cnt;rw [zMg,zLK];have h1:(BitVec.ofInt 64 (zH6 s).toInt).toNat&&&(BitVec.ofInt 64 127).toNat<=(BitVec.ofInt 64 127).toNat:=Nat.and_le_right;have h2:(BitVec.ofInt 64 127).toNat=127:=by decide
 split<;>omega
theorem zvb {p:zd}(hp:zI p) {nb k:Nat}{s:za}{gh:Gh}(G:FG p nb k s gh) {o:Int}(ho:yp s.T o=1) {t:zn}(ht:t=xj s.T o):cnt (t.Black&&&xK (p.H.Objs.length:Int))=cnt (YT p s)+1:=by
 have hn:=hp.n;have hg:=(w8 _ _).1 ho;have hr:=Wu ho;have hle:=G.mrk o hg.1;have hold:o<=(p.H.Objs.length:Int):=Int.not_lt.1 fun h=>hg.2 (G.bk o h hle);have e:t.Black&&&xK (p.H.Objs.length:Int)=YT p s|||bit o:=by
  subst ht;unfold xj YT;rw [zb ho];refine zhQ (fun q=>?_);rw [vr,xq,xq,vr];constructor
  .rintro ⟨a | a,b⟩
   .exact .inl ⟨a,b⟩
   .exact .inr a
  .rintro (⟨a,b⟩ | a)
   .exact ⟨.inl a,b⟩
   .have:=zBv a;subst this;exact ⟨.inr a,(Yv (by omega) q).2 ⟨hr.1,hold⟩⟩
 rw [e];exact zFx (zEu hp s) ⟨hr.1,by omega⟩ (fun h=>hg.2 ((vr _ _ _).1 h).1)
theorem PD.same {p:zd}{s s':za}(I:PD p s) (eH:s'.H.Objs.length=s.H.Objs.length) (eB:s'.T.Black=s.T.Black) (eL:s'.L=s.L):PD p s':=by
 refine ⟨?_⟩;unfold YT;rw [eH,eB,eL];exact I.L
theorem PD.next {p:zd}(hp:zI p) {nb k:Nat}{s:za}{gh:Gh}(hk:k<4294960000) (I:PD p s) (G:FG p nb k s gh) (j:Int):PD p (uW s j):=by
 have hN:=G.E.H.n;have hn:=hp.n;have hmo:=hp.most;have hc:0<=cnt (YT p s)/\cnt (YT p s)<=9:=⟨zwC _,zwg (zEu hp s)⟩
 have hdd:0<=(s.H.Objs.length:Int)-(p.H.Objs.length:Int)/\(s.H.Objs.length:Int)-(p.H.Objs.length:Int)<=9:=by omega
 cases hd:s.Done with
 | true=>rw [ziw hd];exact I
 | false =>
  have hwl:=G.E.wl;have hml:=G.E.ml;unfold uW;split
  .have hf:=zeW s;exact I.same (by conv=>rhs;rw [<-hf]) (by conv=>rhs;rw [<-hf]) (by conv=>rhs;rw [<-hf])
  split
  .by_cases h1:1<=j;rotate_left
   .have:zS s j=s:=by unfold zS;rw [zb (.inr (.inl (by omega)))]
    rw [this];exact I
   obtain ⟨gh',G',_,x,hx,N,C,hb,hT⟩:=G.worker hp hk (show 1<=j/\j<=p.Workers by omega) hd;have e0: ¬(s.Done=true\/j<1\/(s.Ws.length:Int)<j):=by rw [hd];rintro (e | e | e)<;>first | cases e | omega
   have es:zS s j={(zu s j x).1 with Ws:=s.Ws.set (j-1).toNat (zu s j x).2}:=by unfold zS;rw [zc e0,hx]
   have eH:(zS s j).H=s.H:=by rw [W3 G.E j]
   have eT:(zS s j).T=(zu s j x).1.T:=by rw [es]
   have eL:(zS s j).L=if x.PC=8 then Ui s.L 0 else s.L:=by rw [es];exact zHu s j x
   by_cases h8:x.PC=8
   .rw [zb h8] at eL;have hg:yp s.T x.Obj=1:=(G.B.gr _).1 (zpH hx (by unfold z5 UH;rw [zi,zi,zb (.inr h8)];simp));have ht:(zu s j x).1.T=xj s.T x.Obj:=by
     unfold zu;rw [zi,zi,zi,zi,zi,zi,zi,zb h8]
    refine ⟨?_⟩;have ec:cnt (YT p (zS s j))=cnt (YT p s)+1:=by
     unfold YT at *;rw [eT];exact zvb hp G hg ht
    rw [ec,eH,eL];exact I.L.earn hp hc hdd 0
   .rw [zc h8] at eL;refine I.same (by rw [eH]) ?_ eL;rw [eT];rcases hT with ⟨_,_,t⟩ | ⟨_,_,_,_,t⟩ | ⟨_,_,h,_⟩
    .rw [t]
    .rw [t]
    .exact zm h h8
  .by_cases h1:1<=j-(s.Ws.length:Int)/\j-(s.Ws.length:Int)<=(s.Ms.length:Int);rotate_left
   .have:zO s (j-(s.Ws.length:Int))=s:=by unfold zO;rw [yf]
    rw [this];exact I
   generalize j-(s.Ws.length:Int)=m at h1 ⊢;obtain ⟨gh',G',_,x,hx,N,C,hb,hT⟩:=G.mutator hp hk (show 1<=m/\m<=p.Mutators by omega) hd;have e0: ¬(s.Done=true\/m<1\/(s.Ms.length:Int)<m):=by rw [hd];rintro (e | e | e)<;>first | cases e | omega
   have es:zO s m={(zt s m x).1 with Ms:=s.Ms.set (m-1).toNat (zt s m x).2}:=by unfold zO;rw [zc e0,hx]
   have eH:(zO s m).H=(zt s m x).1.H:=by rw [es]
   have eT:(zO s m).T=(zt s m x).1.T:=by rw [es]
   have eL:(zO s m).L=(zt s m x).1.L:=by rw [es]
   have hP:=G.E.S.P;rcases zDE s m x with ⟨c38,l38⟩ | ⟨c38,hl,hL⟩ | ⟨c30,hh,hL,hmay,hroom⟩
   .have hg:yp s.T x.Obj=1:=(G.B.gr _).1 (zpB hx (zr2 (.inr (.inr c38))));have e38:zt s m x=zg4 s m x:=by
     unfold zt;rw [zi,zi,zi,zi,zi,zi,zi,zi,zi,zi,zi,zi,zi,zi,zi,zi,zi,zb c38]
    have ht:(zt s m x).1.T=xj s.T x.Obj:=by rw [e38];rfl
    have hh:(zt s m x).1.H=s.H:=by rw [e38];rfl
    refine ⟨?_⟩;have ec:cnt (YT p (zO s m))=cnt (YT p s)+1:=by
     unfold YT at *;rw [eT];exact zvb hp G hg ht
    rw [ec,eH,hh,eL,l38];exact I.L.earn hp hc hdd m
   .have eB:(zt s m x).1.T.Black&&&xK (p.H.Objs.length:Int)=YT p s:=by
     unfold YT;rcases hT with ⟨_,_,t⟩ | ⟨_,_,_,_,t⟩ | ⟨_,_,h,_⟩ | ⟨_,_,_,_,t3,_⟩
     .rw [t]
     .rw [t]
     .exact zm h c38
     .rw [t3,ZN] at hl;omega
    refine ⟨?_⟩;have ec:YT p (zO s m)=YT p s:=by
     rw [<-eB];unfold YT;rw [eT]
    rw [ec,eH,hl,eL];rcases hL with e | ⟨w,e⟩
    .rw [e];exact I.L
    .rw [e];exact I.L.take hp hc hdd m w
   .have hroom':(s.H.Objs.length:Int)<p.Most:=by
     unfold ZB at hroom;simp only [zKF,decide_eq_true_eq] at hroom;rw [hP] at hroom;exact hroom.1
    have nm: ¬zP s.T.Marks ((s.H.Objs.length:Int)+1)=true:=fun e=>by have:=G.mrk _ e;omega
    have nb': ¬zP s.T.Black ((s.H.Objs.length:Int)+1)=true:=fun e=>nm (G.B.blk _ e);have ec:YT p (zO s m)=YT p s:=by
     have ht:(zt s m x).1.T=s.T\/(zt s m x).1.T=Y0 s.T (wc (s.H.Objs.length+1))\/(zt s m x).1.T.Black=s.T.Black:=by
      rcases hT with ⟨_,_,t⟩ | ⟨_,_,_,_,t⟩ | ⟨_,_,h,_⟩ | ⟨_,_,_,_,_,t4⟩
      .exact .inl t
      .exact .inr (.inr (by rw [t]))
      .omega
      .exact .inr (.inl t4)
     unfold YT;rw [eT];rcases ht with t | t | t
     .rw [t]
     .rw [t,yQ,zev (by omega) nm nb'];refine zhQ (fun q=>?_);rw [vr,vr];dsimp only;constructor
      .rintro ⟨a,b⟩;rcases YB a with a | a
       .exact ⟨a,b⟩
       .have:=(Yv (n:=p.H.Objs.length) (by omega) q).1 b;omega
      .rintro ⟨a,b⟩;exact ⟨(xq _ _ _).2 (.inl a),b⟩
     .rw [t]
    refine ⟨?_⟩;rw [hP] at hL hmay;rw [ec,eH,hh,eL,hL,ZN];have:=I.L.spend hp hc hdd hmay;rw [show ((s.H.Objs.length+1:Nat):Int)-(p.H.Objs.length:Int)=(s.H.Objs.length:Int)-(p.H.Objs.length:Int)+1 by omega];exact this
theorem zJh {p:zd}(h:zI p):PD p (xF p):=by
 have hm:=h.mt;have hl:=h.limit;refine ⟨?_⟩;have ec:YT p (xF p)=0#64:=by show 0#64&&&_=_;simp
 rw [ec,zBJ,show ((xF p).H.Objs.length:Int)-(p.H.Objs.length:Int)=0 from Int.sub_self _];have z:∀n:Nat,(List.replicate n (0:Int)).sum=0:=fun n=>by induction n with
  | zero=>rfl
  | succ n ih=>rw [List.replicate_succ,zLE,ih];rfl
 refine ⟨by show ((List.replicate p.Mutators.toNat (0:Int)).length:Int)=_;rw [zLl];omega,rfl,by show (0:Int)=_;rw [Int.mul_zero],by show (0:Int)<=0;decide,fun b hb=>?_,?_⟩
 .have:b∈List.replicate p.Mutators.toNat (0:Int):=hb;rw [zMu this];omega
 .show (0:Int)+(List.replicate p.Mutators.toNat (0:Int)).sum=_;rw [z,Int.mul_zero];rfl
theorem ziv (a b:BitVec 64):a&&& ~~~b=0#64↔∀o,zP a o=true->zP b o=true:=by
 constructor
 .intro h o ho;have hr:=(xL _ _).1 ho;refine Classical.byContradiction (fun hb=>?_);have:zP (a&&& ~~~b) o=true:=(vr _ _ _).2 ⟨ho,(zcE b ⟨hr.1,hr.2.1⟩).2 hb⟩;rw [h] at this;exact Yj o this
 .intro h;refine zhQ (fun o=>⟨fun e=>?_,fun e=>zm e (Yj o)⟩);obtain ⟨e1,e2⟩:=(vr _ _ _).1 e;have hr:=(xL _ _).1 e1;exact zm (h o e1) ((zcE b ⟨hr.1,hr.2.1⟩).1 e2)
theorem zJv {p:zd}(h:zI p):PI p (xF p) (fun _ _=>False):=by
 have hms:∀(i:Nat) x,(xF p).Ms[i]? =some x->x.PC=0:=fun i x hx=>by
  obtain ⟨r,_,e⟩:=zKT.1 (show x∈p.Regs.map vq from zKK hx);rw [<-e];rfl
 have hws:∀(i:Nat) x,(xF p).Ws[i]? =some x->x.PC=0:=fun i x hx=>by
  obtain ⟨j,_,e⟩:=zKT.1 (show x∈(List.range p.Workers.toNat).map (uA p) from zKK hx);rw [<-e];rfl
 have us:∀u j,US (xF p) u j:=fun u j=>⟨fun i x hx e=>by have:=hws i x hx;omega,fun i x hx e=>by have:=hms i x hx;omega⟩
 refine ⟨fun o ho=>?_,fun i x hx=>?_,fun i x hx=>?_,fun i x hx _=>?_⟩
 .induction ho with
  | root o h1 h2=>exact .inl h1
  | step o v h1 h2 h3 ih =>
   right;have ho:=h1.in;obtain ⟨j,hj⟩:=zMo.1 h2;have hjl:=(zKO.1 hj).1;have hs:yz (xF p).H o (j:Int)=true:=by
    show yz p.H o (j:Int)=true;unfold yz;simp;omega
   have hg:zW (xF p).H o (j:Int)=v:=by
    show zW p.H o (j:Int)=v;unfold zW;rw [zb (show yz p.H o (j:Int)=true from hs),zKH,zLn,hj];rfl
   rcases ih with ih | ih
   .exact .grey o j v (fun e=>e) hs hg ((w8 _ _).2 ⟨ih,Yj o⟩) (us _ _)
   .by_cases hm:zP (xF p).T.Marks o=true
    .exact .grey o j v (fun e=>e) hs hg ((w8 _ _).2 ⟨hm,Yj o⟩) (us _ _)
    .exact .white o j v (fun e=>e) hs hg hm ih
 .have:=hws i x hx;exact ⟨fun e=>by omega,fun e=>by omega,fun e=>by omega⟩
 .have:=hms i x hx;exact ⟨fun e=>by omega,fun e=>by omega,fun e=>by omega⟩
 .have:=hms i x hx;exact ⟨fun e=>by omega,fun e=>by omega⟩
theorem zy9 {o:Int}(h:1<=o/\o<=64):zP (bit o) o=true:=by
 have:=(yO 0#64 h o).2 (.inr rfl);simpa using this
theorem zuv {o:Int}(ho:1<=o/\o<=64):∀(l:List zJ) (a:BitVec 64),(zP a o=true\/∃g∈l,zCh g o)->zP (l.foldl (fun a g=>a|||bit (atS g 0 1 g.Obj)) a) o=true
 | [],a,h=>by
  rcases h with h | ⟨x,h,_⟩
  .exact h
  .cases h
 | y::l,a,h=>by
  refine zuv ho l _ ?_;rcases h with h | ⟨x,hx,h⟩
  .exact .inl ((xq _ _ _).2 (.inl h))
  .rcases zKW.1 hx with rfl | hx
   .refine .inl ((xq _ _ _).2 (.inr ?_));have:atS x 0 1 x.Obj=o:=by unfold atS;rw [zb h.1,zb (by have:=h.2.1;omega),zb (by have:=h.2.1;omega),h.2.2]
    rw [this];exact zy9 ho
   .exact .inr ⟨x,hx,h⟩
theorem zBq {o:Int}{a:BitVec 64}(x:ze) (h:zP a o=true):zP (zcN a x) o=true:=by
 unfold zcN;split
 .exact (xq _ _ _).2 (.inl ((xq _ _ _).2 (.inl h)))
 .exact (xq _ _ _).2 (.inl h)
theorem zis {o:Int}:∀(l:List ze) (a:BitVec 64),(zP a o=true\/∃x∈l,∀b,zP (zcN b x) o=true)->zP (l.foldl zcN a) o=true
 | [],a,h=>by
  rcases h with h | ⟨x,h,_⟩
  .exact h
  .cases h
 | y::l,a,h=>by
  refine zis l _ ?_;rcases h with h | ⟨x,hx,h⟩
  .exact .inl (zBq y h)
  .rcases zKW.1 hx with rfl | hx
   .exact .inl (h a)
   .exact .inr ⟨x,hx,h⟩
theorem zDl {p:zd}{nb k:Nat}{s:za}{gh:Gh}(G:FG p nb k s gh) (hN:(s.H.Objs.length:Int)<=9) {o:Int}(h:zjA s o):(1<=o/\o<=(s.H.Objs.length:Int))/\zP (ztd s) o=true:=by
 rcases h with ⟨i,x,hx,h6,hk⟩ | ⟨i,x,hx,h⟩
 .have hm:=zKK hx;have hg:=(G.W i x hx).p6 h6;have hob:=hg.1.ob;have hw:=G.wob i x hx h6;have hr:1<=o/\o<=(s.H.Objs.length:Int):=by have:=hk.2.2;omega
  refine ⟨hr,zis _ _ (.inl (zuv (by omega) _ _ (.inr ⟨x.G,?_,hk⟩)))⟩;exact zKZ _ (zKT.2 ⟨x,zL0.2 ⟨hm,zw h6⟩,rfl⟩)
 .have K:=G.M i x hx;have hm:=zKK hx;obtain ⟨b1,b2,b3⟩:=G.buf x hm;rcases h with h | ⟨h,e⟩ | ⟨h,hk⟩
  .have hr:1<=o/\o<=(s.H.Objs.length:Int):=⟨(K.bf o h).1,b1 o h⟩
   refine ⟨hr,zis _ _ (.inr ⟨x,hm,fun b=>?_⟩)⟩;have:zP (b|||UY x.Buf) o=true:=(xq _ _ _).2 (.inr (zDj (by omega) _ (.inr h)));unfold zcN;split
   .exact (xq _ _ _).2 (.inl this)
   .exact this
  .have ho:=K.ol.2 h;have hr:1<=o/\o<=(s.H.Objs.length:Int):=by omega
   refine ⟨hr,zis _ _ (.inr ⟨x,hm,fun b=>?_⟩)⟩;unfold zcN;rw [zb (show zhA x by unfold zhA;omega)];exact (xq _ _ _).2 (.inr (by rw [e];exact zy9 (by omega)))
  .have h3:=b3 h;have hob:1<=x.G.Obj:=by
    rcases h with h | h
    .exact (K.p3 h).1.ob.1
    .exact (K.p37 h).1.ob.1
   have hr:1<=o/\o<=(s.H.Objs.length:Int):=by have:=hk.2.2;omega
   refine ⟨hr,zis _ _ (.inl (zuv (by omega) _ _ (.inr ⟨x.G,?_,hk⟩)))⟩;exact zLd _ (zKT.2 ⟨x,zL0.2 ⟨hm,zw h⟩,rfl⟩)
theorem zEw {p:zd}{nb k:Nat}{s:za}{gh:Gh}(G:FG p nb k s gh) (hN:(s.H.Objs.length:Int)<=9) {W:Int->Int->Prop}{o:Int}(h:zoq s W o):o≠0->Reach s.H (za9 s|||ztd s) o:=by
 have hv:∀l∈s.H.Objs,∀v∈l,0<=v/\v<=(s.H.Objs.length:Int):=fun l hl=>(G.E.H.objs l hl).2
 induction h with
 | pend o h =>
  intro _;obtain ⟨a,b⟩:=zDl G hN h;exact .root o ((xq _ _ _).2 (.inr b)) a
 | white u j o hW hj he hu hp ih =>
  intro h0;subst he;have hs:=zDJ hv h0;exact .step u _ (ih (by have:=YF hj;omega)) hs.1 ⟨hs.2.1,hs.2.2⟩
 | grey u j o hW hj he hg hs' =>
  intro h0;subst he;have hs:=zDJ hv h0;have hp:=YF hj;exact .step u _ (.root u ((xq _ _ _).2 (.inl ((znw u).2 hg))) hp.1) hs.1 ⟨hs.2.1,hs.2.2⟩
theorem zHI {p:zd}(h:zI p) {nb k:Nat}{s:za}{gh:Gh}{W:Int->Int->Prop}(G:FG p nb k s gh) (J:PI p s W):zAa p&&& ~~~(s.T.Marks|||ztf s.H (za9 s|||ztd s))=0#64:=by
 have hN:=G.E.H.n;have hn:=h.n;have hmo:=h.most;refine (ziv _ _).2 (fun o ho=>(xq _ _ _).2 ?_);have hr:=(zCn h o).1 ho;have h0:o≠0:=by have:=hr.in;omega
 rcases J.lv o hr with e | e
 .exact .inl e
 .exact .inr ((zzk (by omega) G.E.small.obj _ o).2 (zEw G (by omega) e h0))
end
end Go.Pe.G
