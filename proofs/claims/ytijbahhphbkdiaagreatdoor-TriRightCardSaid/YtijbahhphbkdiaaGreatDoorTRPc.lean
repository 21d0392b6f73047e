/- Own work of this seat: PTriK, PEngN, PPhase, PDone, PLaw20. -/
import Derived.Test.YtijbahhphbkdiaaGreatDoorTRPb
import Derived.Test.YtijbahhphbkdiaaGreatDoorTRPa
set_option linter.unusedVariables false
set_option linter.unusedSimpArgs false
set_option linter.unnecessarySimpa false
set_option linter.unusedSectionVars false
set_option linter.deprecated false
set_option maxRecDepth 20000
open BitVec renaming toNat_and → zLz, getLsbD_and → zLJ, eq_of_getLsbD_eq → zL0, getLsbD_not → zMb, ofNat → zMq
open Bool renaming not_true → zKI
open Int renaming toNat_natCast → zLd
open List renaming getElem?_eq_getElem → zKv, getD_eq_getElem?_getD → zKw, append_nil → zKx, mem_of_getElem? → zKy, mem_cons_of_mem → zKA, getElem?_eq_some_iff → zKC, mem_map → zKE, mem_cons_self → zKJ, length_cons → zKM, mem_cons → zKN, mem_append_left → zKO, getElem?_set_ne → zKP, getElem_mem → zKR, mem_append → zKS, length_set → zKV, length_replicate → zLa, getElem?_set_self → zLb, mem_singleton → zLf, getElem?_set → zLg, foldl_cons → zLk, sum_cons → zLp, length_map → zLq, getElem?_cons_zero → zLy, mem_iff_getElem? → zLA, length_filter_le → zLI, mem_of_mem_take → zLT, any_eq_false → zL8, eq_of_mem_replicate → zMj, eq_nil_iff_forall_not_mem → zMp, replicate → zMr, range → zMt, Perm → zMu
open Nat renaming le_refl → zKz
open Option renaming bind_some → zKt
namespace Go.Pe.G
open Go.Pe
noncomputable section
def zgk (p:zd) (s:za):BitVec 64:=xW (s.H.Objs.length:Int)&&& ~~~xW (p.H.Objs.length:Int)
theorem zvU {p:zd}(hp:zJ p) {s:za}(H:HOk p s.H) (o:Int):zR (zgk p s) o=true↔(p.H.Objs.length:Int)<o/\o<=(s.H.Objs.length:Int):=by
 have hN:=H.n;have hn:=hp.n;have hmo:=hp.most;unfold zgk;rw [ZC,Xp (by omega)];constructor
 .rintro ⟨a,b⟩;have b:=(ze1 _ (by omega)).1 b;rw [Xp (by omega)] at b;omega
 .rintro ⟨a,b⟩;refine ⟨by omega,(ze1 _ (by omega)).2 ?_⟩;rw [Xp (by omega)];omega
theorem znM {p:zd}{s:za}(hP:s.P=p):zbS s=some (zgk p s,()):=by
 rw [zyi,zfd _ (by omega),zKt,zsR,zfd _ (by omega),zKt,zKt,hP];rfl
theorem zz5:∀(n m:Fin 10),m<=n->cnt (xW (n.1:Int)&&& ~~~xW (m.1:Int))=(n.1:Int)-(m.1:Int):=by decide +kernel
theorem zFU {p:zd}(hp:zJ p) {s:za}(H:HOk p s.H):cnt (zgk p s)=(s.H.Objs.length:Int)-(p.H.Objs.length:Int):=by
 have hN:=H.n;have hn:=hp.n;have hmo:=hp.most;exact zz5 ⟨s.H.Objs.length,by omega⟩ ⟨p.H.Objs.length,by omega⟩ (by show p.H.Objs.length<=s.H.Objs.length;omega)
theorem zF7 {p:zd}(hp:zJ p) {nb k:Nat}{s:za}{gh:Gh}(G:FG p nb k s gh):zgk p s&&& ~~~s.T.Black=0#64:=(zcD _ _).2 (fun o ho=>by
 have:=(zvU hp G.E.H o).1 ho;exact G.bk o this.1 this.2)
theorem zzj {g:BitVec 64}(h:∀o,zR g o=true->o<=9):WV (ZG g)=g/\cnt g=((ZG g).length:Int):=by
 obtain ⟨e1,e2⟩:=zDp (l:=ZG g) (fun o ho=>⟨((xw _ _).1 (znO.1 ho).1).1,(znO.1 ho).2⟩) (zt6 g);have e:WV (ZG g)=g:=zls (fun o=>(e2 o).trans (znO.trans ⟨fun x=>x.1,fun x=>⟨x,h o x⟩⟩));rw [e] at e1;exact ⟨e,e1⟩
theorem zCe (g:BitVec 64):(ZG g).length<=9:=by
 unfold ZG;rw [zLq];have:=zLI (fun i=>g.getLsbD i) (zMt 9);rwa [List.length_range] at this
theorem zH9 {g:BitVec 64}(h:∀o,zR g o=true->o<=9):zq0 (ZG g)=some (g,true,()):=by
 obtain ⟨e1,e2⟩:=zzj h;have hl:=zCe g;rw [zzN,zvH (by omega),zKt,znW,zKt,e1];dsimp only;rw [yq,zb e2]
theorem zFN {p:zd}(h:zJ p) {k:Nat}{s:za}{gh:Gh}(G:FG p (yh p+1) k s gh):UI s=some (true,()):=by
 rw [zx2,zuq h G,zKt,zH9 (zFQ h G),zKt];dsimp only;rw [zu,zgr,zKt];dsimp only;rw [show s.T.Marks&&& ~~~s.T.Black=VI s from rfl,zr rfl]
theorem zC9 {p:zd}(h:zJ p) {k:Nat}{s:za}{gh:Gh}(I:EG p (yh p+1) k s gh):X4 s=some (true,()):=by
 have hwk:=h.wk;have hmt:=h.mt;have wl:=I.G.E.wl;have ml:=I.G.E.ml;have hr:=zGg s;have hl:=zCe (VI s);have he:=(zzj (zFQ h I.G)).2;have hc:=zFv h I.G;have hw:=I.wk;rw [zuB,zuq h I.G,zKt,zFh (by omega) (by omega),zKt];dsimp only;rw [yb,zr (by omega)]
theorem zGt {p:zd}(h:zJ p) {nb k:Nat}{s:za}{gh:Gh}{W:Int->Int->Prop}(G:FG p nb k s gh) (J:PI p s W):UD s=some (true,()):=by
 have hwk:=h.wk;have hmt:=h.mt;have wl:=G.E.wl;have ml:=G.E.ml;have hN:=G.E.H.n;have hn:=h.n;have hmo:=h.most;rw [zxs,zgr,zKt,zlG G.E.small (by omega) (by omega),zKt];dsimp only;rw [zqD (by omega) G.E.small.obj,zKt,G.E.S.P,zzx h,zKt,Y7,zKt];dsimp only;rw [show s.T.Marks&&& ~~~s.T.Black=VI s from rfl,zHC h G J,zr rfl]
theorem zDa {p:zd}(h:zJ p) {nb k:Nat}{s:za}{gh:Gh}(G:FG p nb k s gh) (B:BN p s):Wb s=some (true,()):=by
 have hN:=G.E.H.n;have hn:=h.n;have hmo:=h.most;have u1:s.T.Marks&&& ~~~(zAj p|||zgk p s)=0#64:=(zcD _ _).2 (fun o ho=>(xO _ _ _).2 ((B.mkd o ho).imp (fun r=>(zAG h o).2 r) (fun r=>(zvU h G.E.H o).2 r)));have u2:s.T.Black&&& ~~~s.T.Marks=0#64:=(zcD _ _).2 (fun o ho=>G.B.blk o ho);have u3:s.T.Marks&&& ~~~xW (s.H.Objs.length:Int)=0#64:=(zcD _ _).2 (fun o ho=>(Xp (by omega) o).2 ⟨((xw _ _).1 ho).1,G.mrk o ho⟩);rw [zu6,znM G.E.S.P,zKt,G.E.S.P,zzx h,zKt,Y7,zKt];dsimp only;rw [u1,zr rfl,zu,Y7,zKt];dsimp only;rw [zF7 h G,zr rfl,zu,zw0,Y7,zKt];dsimp only;rw [u2,zr rfl,zu,zfd _ (by omega),zKt,Y7,zKt];dsimp only;rw [u3,zr rfl];rfl
theorem zHb {l:List Int}{s:za}(hl:l.length<1000000) (hm:0<=s.P.Limit/\s.P.Limit<1000) (h:∀b∈l,-s.P.Limit<=b):wQ l s=some (false,()):=by
 rw [Wq,W8];obtain ⟨e,_⟩:=ZM (f:=yV) (fun j (_:Unit)=>(l,(l.length:Int),j,s,())) (fun _=>()) l hl (fun _ _=>()) (fun _ _=>True) (s:=()) trivial
  (fun i r x hx hi hr=>by
   have hb:=h x (zKy hx);refine ⟨trivial,?_⟩;show yV (l,(l.length:Int),(i:Int),s,())=_;rw [uE,zp,yg,yY hx,zKt,zv1,zKt,yb];dsimp only;rw [zN (by omega),zM,yM])
  (fun r hr=>by
   show yV (l,(l.length:Int),(l.length:Int),s,())=_;rw [uE,zp,zk])
 rw [e];rfl
theorem lo3 {a b c:Int}(ha:0<=a) (hb:0<=b) (hc:0<=c):decide ((bif decide (c<(bif decide (a<b) then a else b)) then c else (bif decide (a<b) then a else b))<0)=false:=by
 simp only [zp];refine zN ?_;split
 .omega
 .split<;>omega
theorem hi3 {a b c n:Int}(ha:a<=n) (hb:b<=n) (hc:c<=n):decide (n<(bif decide ((bif decide (a<b) then b else a)<c) then c else (bif decide (a<b) then b else a)))=false:=by
 simp only [zp];refine zN ?_;split
 .omega
 .split<;>omega
theorem zCq {p:zd}(hp:zJ p) {c d:Int}(hc:0<=c/\c<=9) (hd:0<=d/\d<=9) {l:zy}(I:LdG p c d l):zhj l=some (true,()):=by
 obtain ⟨h1,h2,h3⟩:=I.low hp hc hd;have hm:=hp.mt;have hlen:=I.len;have hsc:=I.sc;have hsp:=I.sp;have hpo:=I.pool;have hsum:=I.sum;rw [ztz,zp,zc (show ¬(16:Int)<(l.Bal.length:Int) by omega),lo3 (by omega) (by omega) (by omega),zM,hi3 (by omega) (by omega) (by omega),zM,yb];obtain ⟨e,_⟩:=ZM (f:=Wr) (fun j (r:Int)=>(r,l.Bal,(l.Bal.length:Int),j,l,())) (fun r=>(r,l,())) l.Bal (by omega) (fun r b=>r+b) (fun i r=> -1000-100*(i:Int)<=r/\r<=1000+100*(i:Int)) (s:=l.Spent+l.Pool) ⟨by omega,by omega⟩
  (fun i r x hx hi hr=>by
   have hb:=h3 x (zKy hx);refine ⟨⟨by omega,by omega⟩,?_⟩;show Wr (r,l.Bal,(l.Bal.length:Int),(i:Int),l,())=_;rw [zgb,zp,yg,yY hx,zKt,zp,zk,zp,zk,yM,yb])
  (fun r hr=>by
   show Wr (r,l.Bal,(l.Bal.length:Int),(l.Bal.length:Int),l,())=_;rw [zgb,zp,zk])
 have hf:∀(q:List Int) (a:Int),q.foldl (fun r b=>r+b) a=a+q.sum:=fun q=>by
  induction q with
  | nil=>intro a;simp
  | cons x q ih=>intro a;rw [zLk,ih,zLp];omega
 rw [hf] at e;rw [e,zKt];dsimp only;rw [zr (by omega)]
theorem zHn {p:zd}(h:zJ p) {nb k:Nat}{s:za}{gh:Gh}(G:FG p nb k s gh) (I:PD p s):zbp s=some (true,()):=by
 have hN:=G.E.H.n;have hn:=h.n;have hmo:=h.most;have hm:=h.mt;have hl:=h.limit;have hP:=G.E.S.P;have hc:0<=cnt (XI p s)/\cnt (XI p s)<=9:=⟨zv0 _,zwX (zEA h s)⟩
 have hdd:0<=(s.H.Objs.length:Int)-(p.H.Objs.length:Int)/\(s.H.Objs.length:Int)-(p.H.Objs.length:Int)<=9:=by omega
 have hlow:=I.L.low h hc hdd;have hlen:=I.L.len;have hbal:∀b∈s.L.Bal,-s.P.Limit<=b:=by rw [hP];exact I.L.bal
 have hb:=zHb (l:=s.L.Bal) (s:=s) (by omega) (by rw [hP];omega) hbal;have e:s.T.Black&&&xW (p.H.Objs.length:Int)=XI p s:=rfl;have e1:znV s=some (xW (p.H.Objs.length:Int),()):=by rw [zsR,hP,zfd _ (by omega),zKt]
 have e2:=zCq h hc hdd I.L;have e3:w64 (p.Price*cnt (zgk p s))=s.L.Spent:=by rw [zFU h G.E.H,yb,I.L.sp]
 rw [zzK,znM hP,zKt,znW,zKt,e1,zKt,znW,zKt,e2,zKt];dsimp only;have key:∀(b1 b2:Bool) (r:Option (Bool×Unit)),r=some (false,())->b1=true->b2=true->(r.bind fun y6=>bif !y6.1 then (bif b1 then some (b2,()) else some (false,())) else some (false,()))=some (true,()):=by
  rintro _ _ _ rfl rfl rfl;rfl
 rw [zu];exact key _ _ _ hb (zr (by rw [hP];exact e3.symm)) (zr I.L.sc)
theorem zAZ {s:za}(h1:UI s=some (true,())) (h2:X4 s=some (true,())) (h3:UD s=some (true,())) (h4:Wb s=some (true,())) (h5:zbp s=some (true,())) (h6:W2 s=some (true,())) (h7:XK s.H=some (true,())):zbL s=some (true,()):=by
 have w:∀n:Nat,n<10->w64 ((n:Int)+1)=((n+1:Nat):Int):=fun n hn=>yM;have r6:ux (6,s,())=some (.brk (s,())):=by rw [Zz];rfl
 have r5:ux (5,s,())=some (.again (6,s,())):=by
  rw [Zz,h6];show some (yL.again (w64 (((5:Nat):Int)+1),s,()))=_;rw [w 5 (by decide)];rfl
 have r4:ux (4,s,())=some (.again (5,s,())):=by
  rw [Zz,h5];show some (yL.again (w64 (((4:Nat):Int)+1),s,()))=_;rw [w 4 (by decide)];rfl
 have r3:ux (3,s,())=some (.again (4,s,())):=by
  rw [Zz,h4];show some (yL.again (w64 (((3:Nat):Int)+1),s,()))=_;rw [w 3 (by decide)];rfl
 have r2:ux (2,s,())=some (.again (3,s,())):=by
  rw [Zz,h3];show some (yL.again (w64 (((2:Nat):Int)+1),s,()))=_;rw [w 2 (by decide)];rfl
 have r1:ux (1,s,())=some (.again (2,s,())):=by
  rw [Zz,h2];show some (yL.again (w64 (((1:Nat):Int)+1),s,()))=_;rw [w 1 (by decide)];rfl
 have r0:ux (0,s,())=some (.again (1,s,())):=by
  rw [Zz,h1];show some (yL.again (w64 (((0:Nat):Int)+1),s,()))=_;rw [w 0 (by decide)];rfl
 rw [zxx];have e:yZ ux (0+1+1+1+1+1+1+1) (0,s,())=some (.brk (s,())):=by
  rw [yZ,r0,zKt];dsimp only;rw [yZ,r1,zKt];dsimp only;rw [yZ,r2,zKt];dsimp only;rw [yZ,r3,zKt];dsimp only;rw [yZ,r4,zKt];dsimp only;rw [yZ,r5,zKt];dsimp only;rw [yZ,r6,zKt]
 rw [zq4 e (by decide),zKt];dsimp only;rw [h7];rfl
theorem zIT {p:zd}(hp:zJ p) {h:zt}(H:HOk p h):XK h=some (true,()):=by
 have hN:=H.n;have hn:=hp.n;have hmo:=hp.most;have hs:=hp.slots;have hsl:=H.slots;exact zrd ⟨by omega,by omega⟩ (by omega) H.objs
theorem zHo:∀t:Fin 64,cnt (zMq 64 t.1)=((VB (zMq 64 t.1)).length:Int):=by decide +kernel
theorem zE9 {s:BitVec 64}(h:s&&& ~~~63#64=0#64):cnt s=((VB s).length:Int):=by
 have hs:s.toNat<64:=by
  have e:s=s&&&63#64:=by
   have:s=(s&&&63#64)|||(s&&& ~~~63#64):=by
    apply zL0;intro i hi;simp only [BitVec.getLsbD_or,zLJ,zMb];cases s.getLsbD i<;>cases (63#64:BitVec 64).getLsbD i<;>simp [hi]
   rw [h,BitVec.or_zero] at this;exact this
  rw [e,zLz];have:s.toNat&&&(63#64:BitVec 64).toNat<=(63#64:BitVec 64).toNat:=Nat.and_le_right;have e63:(63#64:BitVec 64).toNat=63:=by decide
  omega
 have:=zHo ⟨s.toNat,hs⟩;have e:zMq 64 s.toNat=s:=by simp
 rw [e] at this;exact this
theorem zCn {p:zd}(h:zJ p):EG p (yh p+1) 0 (xk p) (gh0 p):=by
 have hms:∀x∈(xk p).Ms,x.PC=0:=fun x hx=>by
  obtain ⟨r,_,e⟩:=zKE.1 (show x∈p.Regs.map wp from hx);rw [<-e];rfl
 have hws:∀x∈(xk p).Ws,∃i:Nat,x=ub p i:=fun x hx=>by
  obtain ⟨j,_,e⟩:=zKE.1 (show x∈(zMt p.Workers.toNat).map (ub p) from hx);exact ⟨j,e.symm⟩
 have z:∀ {l:List Int},(∀v∈l,v=0)->l.sum=0:=fun {l} h=>by
  induction l with
  | nil=>rfl
  | cons a l ih=>rw [zLp,h a (zKJ ..),ih (fun v hv=>h v (zKA _ hv))];rfl
 have ho:WW (xk p)=0:=by
  unfold WW;rw [z (fun v hv=>by
   obtain ⟨x,hx,rfl⟩:=zKE.1 hv;obtain ⟨i,rfl⟩:=hws x hx;rfl),z (fun v hv=>by
   obtain ⟨x,hx,rfl⟩:=zKE.1 hv;have:=hms x hx;unfold owX;rw [zk,zk])]
  rfl
 have hold1:(xk p).Ms.flatMap (yo (xk p))=[]:=zcF (fun x hx=>by
  obtain ⟨r,_,e⟩:=zKE.1 (show x∈p.Regs.map wp from hx);rw [<-e];unfold yo;rw [Zs ⟨by show (0:Int)≠3;decide,by show (0:Int)≠33;decide,by show (0:Int)≠36;decide,by show (0:Int)≠37;decide,by show (0:Int)≠38;decide⟩];rfl)
 have hold2:(xk p).Ws.flatMap (ya (xk p))=[]:=zcF (fun x hx=>by
  obtain ⟨i,rfl⟩:=hws x hx;have hb:ub p i=zaq p ((i:Int)+1) (ub p i):=rfl;unfold ya;rw [hb,zkC];rfl)
 have hb:vd p (xk p) (gh0 p)=VB (uB p):=by
  unfold vd;rw [hold1,hold2,zKx,zKx,zDA h]
 have hc:=zE9 (zid h);have hw:(xk p).Work=cnt (uB p):=rfl;have hl:=znK h;have hn:=h.n;exact ⟨zF0 h,by rw [hb,ho,hw,hc];omega,by rw [hw,hc];omega⟩
def zrK (x:ze):Prop:=x.Obj=0\/(36<=x.PC/\x.PC<=39)
theorem zG9 {s:za}{m:Int}{x:ze}(h:zrK x):zrK (zn s m x).2:=by
 have out:∀ {y:ze},y.Obj=x.Obj->¬(36<=x.PC/\x.PC<=39)->zrK y:=fun e hn=>.inl (e.trans (h.resolve_right hn));refine yN (motive:=fun r=>zrK r.2) s m x ?_ ?_ ?_ ?_ ?_ ?_ ?_ ?_ ?_ ?_ ?_ ?_ ?_ ?_ ?_ ?_ ?_ ?_ ?_ ?_
 all_goals try (intro c)
 .unfold mu0 YH;repeat' split
  all_goals exact out rfl (by omega)
 .unfold mu1;dsimp only;split<;>exact out rfl (by omega)
 .exact out rfl (by omega)
 .unfold mu3;dsimp only;split<;>exact out rfl (by omega)
 .exact out rfl (by omega)
 .unfold UP;dsimp only;split<;>exact out rfl (by omega)
 .unfold VR;dsimp only;split<;>exact out rfl (by omega)
 .unfold zbx;dsimp only;split<;>exact out rfl (by omega)
 .exact out rfl (by omega)
 .unfold Y6;repeat' split
  all_goals exact out rfl (by omega)
 .unfold zaK;dsimp only;split<;>exact out rfl (by omega)
 .unfold zaE;dsimp only;repeat' split
  all_goals exact out rfl (by omega)
 .exact out rfl (by omega)
 .unfold zaj;dsimp only;split<;>exact out rfl (by omega)
 .unfold zaG;dsimp only;split
  .exact out rfl (by omega)
  .exact .inr ⟨by show (36:Int)<=36;decide,by show (36:Int)<=39;decide⟩
 .unfold zbZ;dsimp only;have:=YA s (wc (x.Slot+1));split
  .exact .inr ⟨by dsimp only;omega,by dsimp only;omega⟩
  .exact .inr ⟨by show (36:Int)<=37;decide,by show (37:Int)<=39;decide⟩
 .unfold WP;dsimp only;have:=YA s x.Slot;split
  .exact .inr ⟨by dsimp only;omega,by dsimp only;omega⟩
  .exact .inr ⟨by dsimp only;omega,by dsimp only;omega⟩
 .exact .inr ⟨by show (36:Int)<=39;decide,by show (39:Int)<=39;decide⟩
 .exact .inl rfl
 .exact h
structure ZE (p:zd) (s:za) (gh:Gh):Prop where
 bag:vd p s gh=[]
 w9:∀(i:Nat) x,s.Ws[i]? =some x->x.PC≠9
 m39:∀(i:Nat) x,s.Ms[i]? =some x->x.PC≠39
theorem ZE.of {p:zd}{nb k:Nat}{s:za}{gh:Gh}(I:EG p nb k s gh) (h:s.Work=0):ZE p s gh/\WW s=0:=by
 have hw:=I.wk;have ho:=zGq s;have hb:(vd p s gh).length=0:=by omega
 have h1:0<=(s.Ws.map owW).sum:=zpI (fun v hv=>by obtain ⟨x,_,rfl⟩:=zKE.1 hv;exact (zrN x).1);have h2:0<=(s.Ms.map owX).sum:=zpI (fun v hv=>by obtain ⟨x,_,rfl⟩:=zKE.1 hv;exact (zsx x).1);have h3:(s.Ws.map owW).sum+(s.Ms.map owX).sum=0:=by show WW s=0;omega
 have one:∀(l:List Int),(∀v∈l,0<=v)->l.sum=0->∀v∈l,v=0:=fun l=>by
  induction l with
  | nil=>intro _ _ v hv;cases hv
  | cons a l ih =>
   intro hn hs v hv;have ha:=hn a (zKJ ..);have hl:=zpI (l:=l) (fun v hv=>hn v (zKA _ hv));rw [zLp] at hs;rcases zKN.1 hv with rfl | hv
   .omega
   .exact ih (fun v hv=>hn v (zKA _ hv)) (by omega) v hv
 refine ⟨⟨List.length_eq_zero_iff.1 hb,fun i x hx e=>?_,fun i x hx e=>?_⟩,by omega⟩
 .have:=one _ (fun v hv=>by obtain ⟨x,_,rfl⟩:=zKE.1 hv;exact (zrN x).1) (show (s.Ws.map owW).sum=0 by omega) (owW x) (zKE.2 ⟨x,zKy hx,rfl⟩);unfold owW at this;rw [zb e] at this;omega
 .have:=one _ (fun v hv=>by obtain ⟨x,_,rfl⟩:=zKE.1 hv;exact (zsx x).1) (show (s.Ms.map owX).sum=0 by omega) (owX x) (zKE.2 ⟨x,zKy hx,rfl⟩);unfold owX at this;rw [zb e] at this;omega
theorem ZE.noW {p:zd}{s:za}{gh:Gh}(C:ZE p s gh) {i:Nat}{x:zi}(hx:s.Ws[i]? =some x):x.PC≠5/\x.PC≠6/\x.PC≠8:=by
 have no:∀o,o∉vd p s gh:=fun o=>by rw [C.bag];simp
 refine ⟨fun e=>no x.Obj (zfU hx ?_),fun e=>no x.Obj (zfU hx ?_),fun e=>no x.Obj (zfU hx ?_)⟩
 .unfold ya;rw [XA (.inl e)];simp
 .unfold ya;rw [zrY e];simp
 .unfold ya;rw [XA (.inr e)];simp
theorem ZE.noX {p:zd}{s:za}{gh:Gh}(C:ZE p s gh) {i:Nat}{x:ze}(hx:s.Ms[i]? =some x):x.PC≠36/\x.PC≠37/\x.PC≠38/\x.Batch=[]:=by
 have no:∀o,o∉vd p s gh:=fun o=>by rw [C.bag];simp
 refine ⟨fun e=>no x.Obj (zd5 hx ?_),fun e=>no x.Obj (zd5 hx ?_),fun e=>no x.Obj (zd5 hx ?_),zMp.2 fun o ho=>no o (zd5 hx (zKO _ ho))⟩
 .unfold yo;rw [Vi (.inl e)];simp
 .unfold yo;rw [zpe e];simp
 .unfold yo;rw [Vi (.inr e)];simp
theorem ZE.worker {p:zd}(hp:zJ p) {nb k:Nat}{s:za}{gh:Gh}(hk:k<4294960000) (G:FG p nb k s gh) (C:ZE p s gh) {w:Int}(hw:1<=w/\w<=p.Workers) (hd:s.Done=false):∃gh',FG p nb (k+1) (zP s w) gh'/\ZE p (zP s w) gh'/\(zP s w).T=s.T:=by
 obtain ⟨gh',G',F,x,hx,N,D,hbag,hT⟩:=G.worker hp hk hw hd;have hwl:=G.E.wl;have hn:=C.noW hx;have h9:=C.w9 _ x hx;have hpc:=(G.E.W _ x hx).pc;have eS:zP s w={(zB s w x).1 with Ws:=s.Ws.set (w-1).toNat (zB s w x).2}:=by
  unfold zP;rw [zc (by rw [hd];rintro (e | e | e)<;>first | cases e | omega),hx]
 have ei:(((w-1).toNat:Nat):Int)+1=w:=by omega
 have hWO:=G.E.W _ x hx;rw [ei] at hWO;have eX:(zP s w).Ms=s.Ms:=by rw [eS];show (zB s w x).1.Ms=_;rw [zfI hWO]
 have eW:(zP s w).Ws=s.Ws.set (w-1).toNat (zB s w x).2:=by rw [eS]
 have n9:(zB s w x).2.PC≠9:=by
  have lk:∀y:zi,(Zk s.P w y).PC≠9:=fun y=>by unfold Zk;split<;>simp
  unfold zB;by_cases c01:x.PC=0\/x.PC=1
  .rw [zb c01];dsimp only;split
   .show (5:Int)≠9;decide
   split
   .exact lk _
   .exact h9
  rw [zc c01];by_cases c2:x.PC=2
  .rw [zb c2];dsimp only;split
   .show (3:Int)≠9;decide
   split
   .show (0:Int)≠9;decide
   .exact h9
  rw [zc c2];by_cases c3:x.PC=3
  .rw [zb c3];show (4:Int)≠9;decide
  rw [zc c3];by_cases c4:x.PC=4
  .rw [zb c4];dsimp only;split
   .show (7:Int)≠9;decide
   .exact h9
  rw [zc c4,zc hn.1,zc hn.2.1,yg];dsimp only;split
  .show (0:Int)≠9;decide
  .show (5:Int)≠9;decide
 rcases hT with ⟨e1,e2,t⟩ | ⟨_,_,c,_⟩ | ⟨_,_,c,_⟩
 .rw [e1,e2,C.bag,zKx,zKx] at hbag;refine ⟨gh',G',⟨List.perm_nil.1 hbag,fun i y hy=>?_,fun i y hy=>C.m39 i y (by rw [<-eX];exact hy)⟩,by rw [eS];exact t⟩;rw [eW] at hy;by_cases hne:i=(w-1).toNat
  .subst hne;rw [zLb (by omega)] at hy;injection hy with hy;rw [<-hy];exact n9
  .rw [zKP (fun e=>hne e.symm)] at hy;exact C.w9 i y hy
 .exact zj c hn.2.1
 .exact zj c hn.2.2
theorem zHg {s:za}{g:zI}(g0:g.Out=0) (gm:g.Mode=2) (hpc:0<=g.PC/\g.PC<=7) (hn: ¬(s.T.Marks|||bit g.Obj=s.T.Marks)) (h:(zF s g).1.T={s.T with Marks:=s.T.Marks|||bit g.Obj}):(zF s g).2.PC=4/\(zF s g).2.Out=0/\(zF s g).2.Mode=2:=by
 have ne:=zde hn;revert h;unfold zF;rw [zk];by_cases c7:g.PC=7
 .rw [zb c7];intro h;exact zj h.symm ne
 rw [zc c7];by_cases c6:g.PC=6
 .rw [zb c6];intro h;exact zj h.symm ne
 rw [zc c6];by_cases c5:g.PC=5
 .rw [zb c5];intro h;exact zj h.symm ne
 rw [zc c5];by_cases c4:g.PC=4
 .rw [zb c4];intro h;exact zj h.symm ne
 rw [zc c4];by_cases c3:g.PC=3
 .rw [zb c3];intro h;exact zj h.symm ne
 rw [zc c3];by_cases c2:g.PC=2
 .rw [zb c2];intro h;exact zj h.symm ne
 rw [zc c2];by_cases c1:g.PC=1
 .rw [zb c1];intro h;unfold zli at h ⊢;dsimp only at h ⊢;rcases zzk s.T g.Obj with ⟨a,b⟩ | ⟨a,b,c⟩
  .rw [b] at h;exact zj h.symm ne
  .rw [zc (by rw [a];decide),zk,zb gm];exact ⟨rfl,g0,gm⟩
 rw [zc c1];intro h;exact zj h.symm ne
def vY (s:za):Prop:=s.Flag=true\/∃(i:Nat) (x:ze),s.Ms[i]? =some x/\x.PC=3/\x.G.PC=4/\x.G.Out=0
theorem ZE.mutator {p:zd}(hp:zJ p) {nb k:Nat}{s:za}{gh:Gh}(hk:k<4294960000) (G:FG p nb k s gh) (C:ZE p s gh) {m:Int}(hm:1<=m/\m<=p.Mutators) (hd:s.Done=false) :
  ∃gh',FG p nb (k+1) (zG s m) gh'/\((ZE p (zG s m) gh'/\∀u,u<=(s.H.Objs.length:Int)->(zR (zG s m).T.Marks u=true↔zR s.T.Marks u=true))\/(vY (zG s m)/\∃x,s.Ms[(m-1).toNat]? =some x/\x.PC=3)):=by
 obtain ⟨gh',G',F,x,hx,N,D,hbag,hT⟩:=G.mutator hp hk hm hd;have hml:=G.E.ml;have hn:=C.noX hx;have h39:=C.m39 _ x hx;have eS:zG s m={(zn s m x).1 with Ms:=s.Ms.set (m-1).toNat (zn s m x).2}:=by
  unfold zG;rw [zc (by rw [hd];rintro (e | e | e)<;>first | cases e | omega),hx]
 have eW:(zG s m).Ws=s.Ws:=by rw [eS];show (zn s m x).1.Ws=_;rw [zcC]
 have eX:(zG s m).Ms=s.Ms.set (m-1).toNat (zn s m x).2:=by rw [eS]
 have eT:(zG s m).T=(zn s m x).1.T:=by rw [eS]
 have hi:(m-1).toNat<s.Ms.length:=by omega
 have ei:(((m-1).toNat:Nat):Int)+1=m:=by omega
 have hXO:=G.E.X _ x hx;have n39:(zn s m x).2.PC≠39:=by
  have hon:∀i,onM s i≠39:=fun i e=>by rcases YA s i with h | h<;>omega
  have hr:=hXO.ret;refine yN (motive:=fun r=>r.2.PC≠39) s m x ?_ ?_ ?_ ?_ ?_ ?_ ?_ ?_ ?_ ?_ ?_ ?_ ?_ ?_ ?_ ?_ ?_ ?_ ?_ ?_
  all_goals try (intro c)
  .unfold mu0 YH;repeat' split
   all_goals ((try dsimp only [setM]);omega)
  .have:=hr (.inl c);unfold mu1;dsimp only;split<;>(dsimp only;omega)
  .unfold mu2;dsimp only;omega
  .unfold mu3;dsimp only;split<;>(dsimp only;omega)
  .unfold zeU;dsimp only [setM];omega
  .unfold UP;dsimp only;split<;>(dsimp only [xG];omega)
  .unfold VR;dsimp only;split<;>(dsimp only;omega)
  .unfold zbx;dsimp only;split<;>(dsimp only;omega)
  .unfold zdN;dsimp only [xG];omega
  .unfold Y6;repeat' split
   all_goals ((try dsimp only [setM,xG]);omega)
  .unfold zaK;dsimp only;split<;>(dsimp only;omega)
  .unfold zaE;dsimp only;repeat' split
   all_goals ((try dsimp only);omega)
  .unfold zeW;dsimp only;omega
  .unfold zaj;dsimp only;split<;>(dsimp only;omega)
  .unfold zaG;dsimp only;split<;>(dsimp only;omega)
  .exact zj c hn.1
  .exact zj c hn.2.1
  .exact zj c hn.2.2.1
  .exact zj c h39
  .exact h39 c
 have fin:∀(e:zMu (vd p (zG s m) gh') []),ZE p (zG s m) gh':=fun e=>by
  refine ⟨List.perm_nil.1 e,fun i y hy=>C.w9 i y (by rw [<-eW];exact hy),fun i y hy=>?_⟩;rw [eX] at hy;by_cases hne:i=(m-1).toNat
  .subst hne;rw [zLb hi] at hy;injection hy with hy;rw [<-hy];exact n39
  .rw [zKP (fun e=>hne e.symm)] at hy;exact C.m39 i y hy
 refine ⟨gh',G',?_⟩;rcases hT with ⟨e1,e2,t⟩ | ⟨_,_,c,t1,t2⟩ | ⟨_,_,c,_⟩ | ⟨e1,e2,c,_,_,t⟩
 .rw [e1,e2,C.bag,zKx,zKx] at hbag;exact .inl ⟨fin hbag,fun u _=>by rw [eT,t]⟩
 .rcases c with c | c
  .refine .inr ⟨.inr ?_,x,hx,c⟩;obtain ⟨Gx,gm,g0⟩:=(G.M _ x hx).p3 c;have e3:zn s m x=mu3 s m x:=by unfold zn;rw [zk,zk,zk,zb c]
   have hg:(zF s x.G).1.T={s.T with Marks:=s.T.Marks|||bit x.G.Obj}:=by rw [<-t2,e3];rfl
   obtain ⟨a,b,_⟩:=zHg g0 gm Gx.pc t1 hg;refine ⟨_,_,by rw [eX];exact zLb hi,?_⟩;rw [e3];unfold mu3;dsimp only;rw [zk];exact ⟨c,a,b⟩
  .exact zj c hn.2.1
 .exact zj c hn.2.2.1
 .rw [e1,e2,C.bag,zKx,zKx] at hbag;refine .inl ⟨fin hbag,fun u hu=>?_⟩;obtain ⟨f1,f2,f3⟩:=G.fresh hp;rw [eT,t,f1];exact ⟨fun h=>(Xd h).elim id (fun h=>by omega),fun h=>(xO _ _ _).2 (.inl h)⟩
theorem vY.flag {p:zd}{nb k:Nat}{s:za}{gh:Gh}(I:EG p nb k s gh) (h:s.Work=0) (D:vY s):s.Flag=true:=by
 rcases D with D | ⟨i,x,hx,c,g4,g0⟩
 .exact D
 .obtain ⟨C,_⟩:=ZE.of I h;have hm:x.G.Obj∈vd p s gh:=zd5 hx (by
   unfold yo;rw [zpo c,v9 g0 (by omega) (by omega)];simp)
  rw [C.bag] at hm;cases hm
theorem znI (s:za) (g:zI):((zF s g).1.Flag=s.Flag\/(zF s g).1.Flag=true)/\(g.Out=0->1<=g.Mode/\g.Mode<=3->g.PC=4->(zF s g).1.Flag=true):=by
 unfold zF;split
 .exact ⟨.inl rfl,fun _ _ _=>by omega⟩
 split
 .exact ⟨.inl rfl,fun _ _ _=>by omega⟩
 split
 .exact ⟨.inl rfl,fun _ _ _=>by omega⟩
 split
 .exact ⟨.inl rfl,fun _ _ _=>by omega⟩
 split
 .exact ⟨.inr rfl,fun _ _ _=>rfl⟩
 split
 .exact ⟨.inl rfl,fun _ _ _=>by omega⟩
 split
 .exact ⟨.inl rfl,fun _ _ _=>by omega⟩
 split
 .exact ⟨.inl rfl,fun _ _ _=>by omega⟩
 .exact ⟨.inl rfl,fun _ _ _=>by omega⟩
theorem zCb (s:za) (m:Int) (x:ze):(zn s m x).1.Flag=s.Flag\/(zn s m x).1.Flag=true:=by
 refine yN (motive:=fun r=>r.1.Flag=s.Flag\/r.1.Flag=true) s m x ?_ ?_ ?_ ?_ ?_ ?_ ?_ ?_ ?_ ?_ ?_ ?_ ?_ ?_ ?_ ?_ ?_ ?_ ?_ ?_
 all_goals try (intro c)
 all_goals first
  | exact .inl rfl
  | (unfold mu3;exact (znI s x.G).1)
  | (unfold WP;exact (znI s x.G).1)
  | (unfold Y6;(repeat' split)<;>exact .inl rfl)
theorem vY.mutator {p:zd}{nb k:Nat}{s:za}{gh:Gh}(G:FG p nb k s gh) (D:vY s) {m:Int}(hm:1<=m/\m<=(s.Ms.length:Int)) (hd:s.Done=false):vY (zG s m):=by
 have hi:(m-1).toNat<s.Ms.length:=by omega
 have hx:=zKv hi;generalize s.Ms[(m-1).toNat]=x at hx;have eS:zG s m={(zn s m x).1 with Ms:=s.Ms.set (m-1).toNat (zn s m x).2}:=by
  unfold zG;rw [zc (by rw [hd];rintro (e | e | e)<;>first | cases e | omega),hx]
 rcases D with D | ⟨i,y,hy,c,g4,g0⟩
 .left;rw [eS];show (zn s m x).1.Flag=true;rcases zCb s m x with h | h
  .rw [h];exact D
  .exact h
 .by_cases hne:i=(m-1).toNat
  .subst hne;rw [hx] at hy;injection hy with hy;subst hy;left;rw [eS];have e3:zn s m x=mu3 s m x:=by unfold zn;rw [zk,zk,zk,zb c]
   show (zn s m x).1.Flag=true;rw [e3];exact (znI s x.G).2 g0 ((G.M _ x hx).p3 c).1.md g4
  .right;refine ⟨i,y,?_,c,g4,g0⟩;rw [eS];show (s.Ms.set (m-1).toNat (zn s m x).2)[i]? =some y;rw [zKP (fun e=>hne e.symm)];exact hy
theorem zFT (s:za) (w:Int) (x:zi):(zB s w x).1.Flag=s.Flag\/(zB s w x).1.Flag=true:=by
 by_cases c6:x.PC=6
 .rw [zvI c6];exact (znI s x.G).1
 .unfold zB;split
  .exact .inl rfl
  split
  .exact .inl rfl
  split
  .exact .inl rfl
  split
  .exact .inl rfl
  split
  .exact .inl rfl
  split
  .exact .inl rfl
  split
  .exact .inl rfl
  split
  .exact .inl rfl
  .exact .inl rfl
theorem vY.worker {p:zd}{nb:Nat}{s:za}(E:EOk p nb s) (D:vY s) (w:Int):vY (zP s w):=by
 have hf:=Xa E w;have eX:(zP s w).Ms=s.Ms:=by rw [hf]
 rcases D with D | ⟨i,y,hy,c⟩
 .left;unfold zP;split
  .exact D
  split
  .rename_i x hx;show (zB s w x).1.Flag=true;rcases zFT s w x with h | h
   .rw [h];exact D
   .exact h
  .exact D
 .exact .inr ⟨i,y,by rw [eX];exact hy,c⟩
theorem vY.det {s:za}(D:vY s) (h:s.D.PC≠0):vY (zV s):=by
 have hd:=zaY s;have eX:(zV s).Ms=s.Ms:=by conv=>rhs;rw [<-hd]
 rcases D with D | ⟨i,y,hy,c⟩
 .left;unfold zV;rw [zc h]
  repeat' split
  all_goals exact D
 .exact .inr ⟨i,y,by rw [eX];exact hy,c⟩
theorem zzE {p:zd}{nb:Nat}{s:za}{m:Int}{x:ze}(O:XOk p nb m x) {o:Int}(h:zaa (zn s m x).2 o):zaa x o\/(x.PC=21/\x.Old=o/\o≠0/\yB s.T o=0)\/x.PC=36:=by
 have hr:=O.ret;have calm:∀ {y:ze},y.Buf=x.Buf->y.PC≠1->y.PC≠3->y.PC≠22->y.PC≠37->zaa y o->zaa x o\/(x.PC=21/\x.Old=o/\o≠0/\yB s.T o=0)\/x.PC=36:=fun e h1 h2 h3 h4 h=>by
  rcases h with h | ⟨h,_⟩ | ⟨h,_⟩
  .exact .inl (.inl (by rw [<-e];exact h))
  .omega
  .omega
 have ask:∀ {g:zI},zuR (zF s g).2 o->zuR g o:=fun {g} h=>by
  obtain ⟨h1,h2,h3⟩:=h;rw [(Uv s g).1] at h3;revert h1 h2;unfold zF;split
  .exact fun h1 h2=>⟨h1,h2,h3⟩
  rename_i hb;split
  .intro h1 h2;unfold zcY at h2;dsimp only at h2;split at h2<;>(dsimp only at h2;omega)
  split
  .intro h1 h2;have h2:(7:Int)=0\/(7:Int)=1:=h2;omega
  split
  .intro h1 h2;unfold zkZ zga at h2;dsimp only at h2;split at h2
   .dsimp only at h2;omega
   split at h2<;>(dsimp only at h2;omega)
  split
  .intro h1 h2;have h2:(5:Int)=0\/(5:Int)=1:=h2;omega
  split
  .intro h1 h2;unfold zlf zga at h2;dsimp only at h2;split at h2
   .dsimp only at h2;omega
   split at h2<;>(dsimp only at h2;omega)
  split
  .intro h1 h2;have h1:(1:Int)=0:=h1;omega
  split
  .rename_i c1;intro h1 h2;exact ⟨by omega,.inr c1,h3⟩
  .intro h1 h2;exact ⟨by omega,.inl (by omega),h3⟩
 revert h;refine yN (motive:=fun r=>zaa r.2 o->zaa x o\/(x.PC=21/\x.Old=o/\o≠0/\yB s.T o=0)\/x.PC=36) s m x ?_ ?_ ?_ ?_ ?_ ?_ ?_ ?_ ?_ ?_ ?_ ?_ ?_ ?_ ?_ ?_ ?_ ?_ ?_ ?_
 .intro c;unfold mu0 YH;split
  .intro h;rcases h with h | ⟨h,_⟩ | ⟨h,_⟩
   .exact .inl (.inl h)
   .have h:(1:Int)=22\/(((1:Int)=1\/(1:Int)=3)/\(2:Int)=22):=h;omega
   .have h:(1:Int)=3\/(1:Int)=37:=h;omega
  repeat' split
  all_goals exact calm rfl (by (try dsimp only [setM]);omega) (by (try dsimp only [setM]);omega) (by (try dsimp only [setM]);omega) (by (try dsimp only [setM]);omega)
 .intro c;unfold mu1;dsimp only;split
  .intro h;rcases h with h | ⟨h,e⟩ | ⟨h,_⟩
   .exact .inl (.inl h)
   .have h:x.Ret=22\/((x.Ret=1\/x.Ret=3)/\x.Ret=22):=h;exact .inl (.inr (.inl ⟨.inr ⟨.inl c,by omega⟩,e⟩))
   .have h:x.Ret=3\/x.Ret=37:=h;have:=hr (.inl c);omega
  .rename_i hl;intro h;rcases h with h | ⟨h,e⟩ | ⟨_,_,_,e⟩
   .exact .inl (.inl (zLT h))
   .have h:(3:Int)=22\/(((3:Int)=1\/(3:Int)=3)/\x.Ret=22):=h;exact .inl (.inr (.inl ⟨.inr ⟨.inl c,by omega⟩,e⟩))
   .have e:x.Buf.getD (x.Buf.length-1) 0=o:=e;rw [zKw,zKv (show x.Buf.length-1<x.Buf.length by omega)] at e;exact .inl (.inl (by rw [<-e];exact zKR _))
 .intro c;unfold mu2;exact calm rfl (by dsimp only;omega) (by dsimp only;omega) (by dsimp only;omega) (by dsimp only;omega)
 .intro c;unfold mu3;dsimp only;split
  .intro h;rcases h with h | ⟨h,e⟩ | ⟨h,_⟩
   .exact .inl (.inl h)
   .have h:(1:Int)=22\/(((1:Int)=1\/(1:Int)=3)/\x.Ret=22):=h;exact .inl (.inr (.inl ⟨.inr ⟨.inr c,by omega⟩,e⟩))
   .have h:(1:Int)=3\/(1:Int)=37:=h;omega
  .intro h;rcases h with h | ⟨h,e⟩ | ⟨_,h⟩
   .exact .inl (.inl h)
   .exact .inl (.inr (.inl ⟨h,e⟩))
   .exact .inl (.inr (.inr ⟨.inl c,ask h⟩))
 .intro c;unfold zeU;exact calm rfl (by dsimp only [setM];omega) (by dsimp only [setM];omega) (by dsimp only [setM];omega) (by dsimp only [setM];omega)
 .intro c;unfold UP;dsimp only;split
  .exact calm rfl (by dsimp only [xG];omega) (by dsimp only [xG];omega) (by dsimp only [xG];omega) (by dsimp only [xG];omega)
  .exact calm rfl (by dsimp only;omega) (by dsimp only;omega) (by dsimp only;omega) (by dsimp only;omega)
 .intro c;unfold VR;dsimp only;split
  .exact calm rfl (by dsimp only;omega) (by dsimp only;omega) (by dsimp only;omega) (by dsimp only;omega)
  .rename_i hn;intro h;rcases h with h | ⟨_,e⟩ | ⟨h,_⟩
   .exact .inl (.inl h)
   .have e:x.Old=o:=e;refine .inr (.inl ⟨c,e,fun e0=>hn (.inl (by rw [e];exact e0)),?_⟩);exact Decidable.byContradiction fun ht=>hn (.inr (by rw [e];exact ht))
   .have h:(22:Int)=3\/(22:Int)=37:=h;omega
 .intro c;unfold zbx;dsimp only;split
  .intro h;rcases h with h | ⟨_,e⟩ | ⟨h,_⟩
   .exact .inl (.inl h)
   .exact .inl (.inr (.inl ⟨.inl c,e⟩))
   .have h:(1:Int)=3\/(1:Int)=37:=h;omega
  .intro h;rcases h with h | ⟨h,_⟩ | ⟨h,_⟩
   .rcases zKS.1 h with h | h
    .exact .inl (.inl h)
    .exact .inl (.inr (.inl ⟨.inl c,(zLf.1 h).symm⟩))
   .have h:(23:Int)=22\/(((23:Int)=1\/(23:Int)=3)/\x.Ret=22):=h;omega
   .have h:(23:Int)=3\/(23:Int)=37:=h;omega
 .intro c;unfold zdN;exact calm rfl (by dsimp only [xG];omega) (by dsimp only [xG];omega) (by dsimp only [xG];omega) (by dsimp only [xG];omega)
 .intro c;unfold Y6;repeat' split
  all_goals exact calm rfl (by (try dsimp only [setM,xG]);omega) (by (try dsimp only [setM,xG]);omega) (by (try dsimp only [setM,xG]);omega) (by (try dsimp only [setM,xG]);omega)
 .intro c;unfold zaK;dsimp only;split<;>exact calm rfl (by dsimp only;omega) (by dsimp only;omega) (by dsimp only;omega) (by dsimp only;omega)
 .intro c;unfold zaE;dsimp only;repeat' split
  all_goals exact calm rfl (by dsimp only;omega) (by dsimp only;omega) (by dsimp only;omega) (by dsimp only;omega)
 .intro c;unfold zeW;exact calm rfl (by dsimp only;omega) (by dsimp only;omega) (by dsimp only;omega) (by dsimp only;omega)
 .intro c;unfold zaj;dsimp only;split<;>exact calm rfl (by dsimp only;omega) (by dsimp only;omega) (by dsimp only;omega) (by dsimp only;omega)
 .intro c;unfold zaG;dsimp only;split<;>exact calm rfl (by dsimp only;omega) (by dsimp only;omega) (by dsimp only;omega) (by dsimp only;omega)
 .intro c _;exact .inr (.inr c)
 .intro c;unfold WP;dsimp only;have hm:=YA s x.Slot;split
  .exact calm rfl (by dsimp only;omega) (by dsimp only;omega) (by dsimp only;omega) (by dsimp only;omega)
  .intro h;rcases h with h | ⟨h,e⟩ | ⟨_,h⟩
   .exact .inl (.inl h)
   .have h:x.PC=22\/((x.PC=1\/x.PC=3)/\x.Ret=22):=h;omega
   .exact .inl (.inr (.inr ⟨.inr c,ask h⟩))
 .intro c;unfold zeR;exact calm rfl (by dsimp only;omega) (by dsimp only;omega) (by dsimp only;omega) (by dsimp only;omega)
 .intro c;unfold zh9;exact calm rfl (by dsimp only;omega) (by dsimp only;omega) (by dsimp only;omega) (by dsimp only;omega)
 .exact fun h=>.inl h
def zyF (p:zd) (s:za) (x:ze):Prop:=x.PC=21->x.Old=0\/LvH p s.H x.Old
theorem zH3 {p:zd}{s:za}(hP:s.P=p) {m:Int}{x:ze}(C:W6 p s.H) (R:XB p s.H x.Regs) (hr:x.PC=1->x.Ret=2\/x.Ret=22):(zn s m x).2.PC=21->x.PC≠21->(zn s m x).2.Old=0\/LvH p s.H (zn s m x).2.Old:=by
 by_cases c:x.PC=20
 .have e:zn s m x=UP s m x:=by
   unfold zn;rw [zk,zk,zk,zk,zk,zb c]
  rw [e];unfold UP;dsimp only;split
  .intro h;have h:(0:Int)=21:=h;omega
  .intro _ _;exact zgn C (R.reg _) _
 .intro h hn;exfalso;revert h;have no:∀ {y:ze},y.PC≠21->y.PC=21->False:=fun a b=>a b;have hm:=YA s (wc (x.Slot+1));have hm2:=YA s x.Slot;refine yN (motive:=fun r=>(x.PC=1->x.Ret=2\/x.Ret=22)->r.2.PC=21->False) s m x ?_ ?_ ?_ ?_ ?_ ?_ ?_ ?_ ?_ ?_ ?_ ?_ ?_ ?_ ?_ ?_ ?_ ?_ ?_ ?_ hr
  all_goals try (intro c)
  all_goals intro hr
  .unfold mu0 YH;repeat' split
   all_goals exact no (by (try dsimp only [setM]);omega)
  .have:=hr c;unfold mu1;dsimp only;split<;>exact no (by dsimp only;omega)
  .exact no (by show (0:Int)≠21;decide)
  .unfold mu3;dsimp only;split<;>exact no (by dsimp only;omega)
  .exact no (by show (0:Int)≠21;decide)
  .exact zj c (by omega)
  .unfold VR;dsimp only;split<;>exact no (by dsimp only;omega)
  .unfold zbx;dsimp only;split<;>exact no (by dsimp only;omega)
  .exact no (by show (0:Int)≠21;decide)
  .unfold Y6;repeat' split
   all_goals exact no (by (try dsimp only [setM,xG]);omega)
  .unfold zaK;dsimp only;split<;>exact no (by dsimp only;omega)
  .unfold zaE;dsimp only;repeat' split
   all_goals exact no (by dsimp only;omega)
  .exact no (by show (34:Int)≠21;decide)
  .unfold zaj;dsimp only;split<;>exact no (by dsimp only;omega)
  .unfold zaG;dsimp only;split<;>exact no (by dsimp only;omega)
  .unfold zbZ;dsimp only;split<;>exact no (by dsimp only;omega)
  .unfold WP;dsimp only;split<;>exact no (by dsimp only;omega)
  .exact no (by show (39:Int)≠21;decide)
  .exact no (by show (35:Int)≠21;decide)
  .exact hn hr
theorem zJP (t:zx) (o:Int):yB t o=0↔¬zR t.Marks o=true:=by
 unfold yB;by_cases h1:zR (t.Marks&&&t.Black) o=true
 .rw [zb h1];rw [ZC] at h1;exact ⟨fun e=>(by cases e),fun e=>zj h1.1 e⟩
 .rw [zc h1];by_cases h2:zR t.Marks o=true
  .rw [zb h2];exact ⟨fun e=>(by cases e),fun e=>zj h2 e⟩
  .rw [zc h2];exact ⟨fun _=>h2,fun _=>rfl⟩
theorem zuW:∀ {l:List Int},(∀v∈l,v=0)->l.sum=0
 | [],_=>rfl
 | a::l,h=>by
  rw [zLp,h a (zKJ ..),zuW (fun v hv=>h v (zKA _ hv))];rfl
theorem ZE.to {p:zd}{nb k k':Nat}{s:za}{gh gh':Gh}(G:FG p nb k s gh) (G':FG p nb k' s gh') (C:ZE p s gh):ZE p s gh':=by
 refine ⟨zMp.2 fun o ho=>?_,C.w9,C.m39⟩;have:=(G.B.gr o).2 ((G'.B.gr o).1 ho);rw [C.bag] at this;cases this
theorem zuG {p:zd}{nb k:Nat}{s:za}{gh:Gh}(G:FG p nb k s gh) {i:Nat}{x:ze}(hx:s.Ms[i]? =some x) {o:Int}(h:zaa x o):1<=o/\o<=(s.H.Objs.length:Int):=by
 have K:=G.M i x hx;obtain ⟨b1,b2,b3⟩:=G.buf x (zKy hx);rcases h with h | ⟨h,e⟩ | ⟨h,_,_,e⟩
 .exact ⟨(K.bf o h).1,b1 o h⟩
 .have:=K.ol.2 h;omega
 .have h3:=b3 h;rcases h with h | h
  .have:=(K.p3 h).1.ob;omega
  .have:=(K.p37 h).1.ob;omega
def K1 (s:za):Prop:=∃(i:Nat) (x:ze) (o:Int),s.Ms[i]? =some x/\(s.D.PC=2\/s.Acks.getD i 0<s.Epoch)/\zaa x o/\¬zR s.T.Marks o=true
def zmA (x:ze):Prop:=x.Buf=[]/\x.PC≠1/\x.PC≠3/\x.PC≠22
def K2 (s:za):Prop:=(∀(i:Nat) (x:ze),s.Ms[i]? =some x->∀o,zaa x o->zR s.T.Marks o=true)/\(s.D.PC≠2->∀(i:Nat) (x:ze),s.Ms[i]? =some x->s.Acks.getD i 0=s.Epoch->zmA x)
theorem K1.same {s s':za}(K:K1 s) (eX:s'.Ms=s.Ms) (eT:s'.T=s.T) (h:∀i:Nat,i<s.Ms.length->s.D.PC=2\/s.Acks.getD i 0<s.Epoch->s'.D.PC=2\/s'.Acks.getD i 0<s'.Epoch):K1 s':=by
 obtain ⟨i,x,o,hx,ha,hp,hm⟩:=K;exact ⟨i,x,o,by rw [eX];exact hx,h i (zKC.1 hx).1 ha,hp,by rw [eT];exact hm⟩
theorem K2.same {s s':za}(K:K2 s) (eX:s'.Ms=s.Ms) (eT:s'.T=s.T) (h:∀i:Nat,i<s.Ms.length->s'.D.PC≠2->s'.Acks.getD i 0=s'.Epoch->s.D.PC≠2/\s.Acks.getD i 0=s.Epoch):K2 s':=by
 refine ⟨fun i x hx o ho=>?_,fun hd i x hx ha=>?_⟩
 .rw [eX] at hx;rw [eT];exact K.1 i x hx o ho
 .rw [eX] at hx;obtain ⟨a,b⟩:=h i (zKC.1 hx).1 hd ha;exact K.2 a i x hx b
theorem K2.live {p:zd}(hp:zJ p) {nb k:Nat}{s:za}{gh:Gh}{W:Int->Int->Prop}(G:FG p nb k s gh) (J:PI p s W) (C:ZE p s gh) (K:K2 s) {o:Int}(L:LvH p s.H o):zR s.T.Marks o=true:=by
 rcases L with L | L
 .refine J.quiet (fun q hq=>?_) (fun q hq=>?_) L
  .have:=(G.B.gr q).2 hq;rw [C.bag] at this;cases this
  .rcases hq with ⟨i,x,hx,h,_⟩ | ⟨i,x,hx,h⟩
   .exact zj h (C.noW hx).2.1
   .exact K.1 i x hx q h
 .exact G.B.blk o (G.bk o L.1 L.2)
theorem zGO {s:za}{m:Int}{x:ze}(h:zmA x) (h0:x.PC=0->¬s.Acks.getD (m-1).toNat 0<s.Epoch) (h21:x.PC=21->x.Old=0\/yB s.T x.Old≠0):zmA (zn s m x).2:=by
 obtain ⟨hb,n1,n3,n22⟩:=h;have fin:∀ {y:ze},y.Buf=x.Buf->(y.PC≠1/\y.PC≠3/\y.PC≠22)->zmA y:=fun e hn=>⟨e.trans hb,hn⟩
 have hon:∀i,onM s i=36\/onM s i=38:=YA s;refine yN (motive:=fun r=>zmA r.2) s m x ?_ ?_ ?_ ?_ ?_ ?_ ?_ ?_ ?_ ?_ ?_ ?_ ?_ ?_ ?_ ?_ ?_ ?_ ?_ ?_
 all_goals try (intro c)
 .unfold mu0 YH;rw [zc (h0 c)]
  repeat' split
  all_goals exact fin rfl (by (try dsimp only [setM]);omega)
 .exact zj c n1
 .exact fin rfl (by unfold mu2;dsimp only;omega)
 .exact zj c n3
 .exact fin rfl (by unfold zeU;dsimp only [setM];omega)
 .unfold UP;dsimp only;split<;>exact fin rfl (by dsimp only [xG];omega)
 .unfold VR;dsimp only;rw [zb (h21 c)];exact fin rfl (by dsimp only;omega)
 .exact zj c n22
 .exact fin rfl (by unfold zdN;dsimp only [xG];omega)
 .unfold Y6;repeat' split
  all_goals exact fin rfl (by (try dsimp only [setM,xG]);omega)
 .unfold zaK;dsimp only;split<;>exact fin rfl (by dsimp only;omega)
 .unfold zaE;dsimp only;repeat' split
  all_goals exact fin rfl (by (try dsimp only);omega)
 .exact fin rfl (by unfold zeW;dsimp only;omega)
 .unfold zaj;dsimp only;split<;>exact fin rfl (by (try dsimp only);omega)
 .unfold zaG;dsimp only;split<;>exact fin rfl (by (try dsimp only);omega)
 .unfold zbZ;dsimp only;have:=hon (wc (x.Slot+1));split<;>exact fin rfl (by dsimp only;omega)
 .unfold WP;dsimp only;have:=hon x.Slot;split<;>exact fin rfl (by dsimp only;omega)
 .exact fin rfl (by unfold zeR;dsimp only;omega)
 .exact fin rfl (by unfold zh9;dsimp only;omega)
 .exact ⟨hb,n1,n3,n22⟩
structure PH (p:zd) (s:za) (gh:Gh):Prop where
 a3:s.D.PC=3->∀j:Nat,(j:Int)<s.D.I->s.Acks.getD j 0=s.Epoch
 a4:4<=s.D.PC->∀j:Nat,j<s.Ms.length->s.Acks.getD j 0=s.Epoch
 ph:2<=s.D.PC/\s.D.PC<=4->vY s\/(ZE p s gh/\(K1 s\/K2 s))
 p5:s.D.PC=5->s.Flag=true\/(ZE p s gh/\K2 s)
 p6:s.D.PC=6->ZE p s gh/\K2 s
 dn:s.Done=true->s.D.PC=6
structure DI (p:zd) (nb k:Nat) (s:za) (gh:Gh) (W:Int->Int->Prop):Prop where
 I:EG p nb k s gh
 J:PI p s W
 R:RgI p s
 O:∀(i:Nat) x,s.Ms[i]? =some x->zyF p s x
 B:∀(i:Nat) x,s.Ms[i]? =some x->zrK x
 A:AI (k:Int) s
 P:PH p s gh
theorem K1.no {s:za}(h:s.D.PC≠2) (ha:∀j:Nat,j<s.Ms.length->s.Acks.getD j 0=s.Epoch): ¬K1 s:=by
 rintro ⟨i,x,o,hx,hk,_⟩;have:=ha i (zKC.1 hx).1;omega
theorem PH.det {p:zd}(hp:zJ p) {nb k:Nat}{s:za}{gh gh':Gh}(hk:k<1000000) (I:EG p nb k s gh) (A:AI (k:Int) s) (P:PH p s gh) (hd:s.Done=false) (I':EG p nb (k+1) (zV s) gh'):PH p (zV s) gh':=by
 have hf:=zaY s;have eX:(zV s).Ms=s.Ms:=by conv=>rhs;rw [<-hf]
 have eT:(zV s).T=s.T:=by conv=>rhs;rw [<-hf]
 have eW:(zV s).Ws=s.Ws:=by conv=>rhs;rw [<-hf]
 have eB:(zV s).Bins=s.Bins:=by conv=>rhs;rw [<-hf]
 have hDP:=I.G.E.D;have he:=A.ep;have cl:ZE p s gh->ZE p (zV s) gh':=fun C=>by
  refine ⟨zMp.2 fun o ho=>?_,by rw [eW];exact C.w9,by rw [eX];exact C.m39⟩;have:=(I'.G.B.gr o).1 ho;rw [eT] at this;have:=(I.G.B.gr o).2 this;rw [C.bag] at this;cases this
 have di:s.D.PC≠0->vY s->vY (zV s):=fun h D=>D.det h;have hD:∀ {t:za},zV s=t->t.Done=false/\t.D.PC<=1->PH p (zV s) gh':=fun {t} e h=>by
  rw [e];exact ⟨fun c=>by omega,fun c=>by omega,fun c=>by omega,fun c=>by omega,fun c=>by omega,fun c=>by rw [h.1] at c;cases c⟩
 by_cases c0:s.D.PC=0
 .exact hD (t:={s with Flag:=false,D:={s.D with PC:=1}}) (by unfold zV;rw [zc (by rw [hd];decide),zb c0]) ⟨hd,by show (1:Int)<=1;decide⟩
 by_cases c1:s.D.PC=1
 .by_cases hw:s.Work=0
  .have e:zV s={s with D:={s.D with PC:=2}}:=by unfold zV;rw [zc (by rw [hd];decide),zc c0,zb c1,zb hw]
   have C:=cl (ZE.of I hw).1;have eP:(zV s).D.PC=2:=by rw [e]
   refine ⟨fun c=>by omega,fun c=>by omega,fun _=>.inr ⟨C,?_⟩,fun c=>by omega,fun c=>by omega,fun c=>by rw [e] at c;rw [show s.Done=true from c] at hd;cases hd⟩;by_cases hK:K1 (zV s)
   .exact .inl hK
   .refine .inr ⟨fun i x hx o ho=>Decidable.byContradiction fun hm=>hK ⟨i,x,o,hx,.inl eP,ho,hm⟩,fun c=>zj eP c⟩
  .exact hD (t:=s) (by unfold zV;rw [zc (by rw [hd];decide),zc c0,zb c1,zc hw]) ⟨hd,by omega⟩
 by_cases c2:s.D.PC=2
 .have e:zV s={s with Epoch:=wc (s.Epoch+1),D:=⟨if s.Ms.length=0 then 4 else 3,0⟩}:=by unfold zV;rw [zc (by rw [hd];decide),zc c0,zc c1,zb c2]
  have eE:(zV s).Epoch=s.Epoch+1:=by rw [e];exact xq
  have eA:(zV s).Acks=s.Acks:=by rw [e]
  have eP:(zV s).D.PC=if s.Ms.length=0 then 4 else 3:=by rw [e]
  have eI:(zV s).D.I=0:=by rw [e]
  have eN:(zV s).Done=false:=by rw [e];exact hd
  have hP:((zV s).D.PC=4/\s.Ms.length=0)\/(zV s).D.PC=3:=by
   rw [eP];split
   .exact .inl ⟨rfl,by assumption⟩
   .exact .inr rfl
  refine ⟨fun _ j hj=>by omega,fun c j hj=>by rw [eX] at hj;omega,fun _=>?_,fun c=>by omega,fun c=>by omega,fun c=>by rw [eN] at c;cases c⟩;rcases P.ph ⟨by omega,by omega⟩ with D | ⟨C,K⟩
  .exact .inl (di c0 D)
  .have hac:∀i:Nat,i<s.Ms.length->s.Acks.getD i 0<=s.Epoch:=fun i hi=>(A.m i _ (zKv hi)).1;refine .inr ⟨cl C,K.imp (fun K=>K.same eX eT fun i hi _=>.inr ?_) (fun K=>K.same eX eT fun i hi _ ha=>?_)⟩
   .rw [eA,eE];have:=hac i hi;omega
   .rw [eA,eE] at ha;have:=hac i hi;omega
 have n2:s.D.PC≠2:=c2;have keep:∀ {t:za},zV s=t->t.Acks=s.Acks->t.Epoch=s.Epoch->(t.D.PC≠2/\t.Done=false)->(K1 s->K1 t)/\(K2 s->K2 t):=fun {t} e ea ee hn=>by
  have ex:t.Ms=s.Ms:=by rw [<-e];exact eX
  have et:t.T=s.T:=by rw [<-e];exact eT
  refine ⟨fun K=>K.same ex et fun i hi h=>.inr ?_,fun K=>K.same ex et fun i hi _ h=>⟨n2,?_⟩⟩
  .rw [ea,ee];omega
  .rw [ea,ee] at h;exact h
 by_cases c3:s.D.PC=3
 .have hI:=hDP.2 c3;by_cases hw:s.Acks.getD s.D.I.toNat 0<s.Epoch
  .have e:zV s=s:=by unfold zV;rw [zc (by rw [hd];decide),zc c0,zc c1,zc c2,zb c3,zb hw]
   rw [e] at cl di ⊢;exact ⟨P.a3,P.a4,fun c=>(P.ph c).imp id (fun K=>⟨cl K.1,K.2⟩),fun c=>by omega,fun c=>by omega,P.dn⟩
  .have e:zV s={s with D:=⟨if wc (s.D.I+1)=(s.Ms.length:Int) then 4 else 3,wc (s.D.I+1)⟩}:=by unfold zV;rw [zc (by rw [hd];decide),zc c0,zc c1,zc c2,zb c3,zc hw]
   have hsm:=I.G.E.small.ms;have wI:wc (s.D.I+1)=s.D.I+1:=xq;have eN:(zV s).Done=false:=by rw [e];exact hd
   have eE:(zV s).Epoch=s.Epoch:=by rw [e]
   have eA:(zV s).Acks=s.Acks:=by rw [e]
   have eI:(zV s).D.I=s.D.I+1:=by rw [e];exact wI
   have hP:((zV s).D.PC=4/\s.D.I+1=(s.Ms.length:Int))\/(zV s).D.PC=3:=by
    have:(zV s).D.PC=if wc (s.D.I+1)=(s.Ms.length:Int) then 4 else 3:=by rw [e]
    rw [this,wI];split
    .exact .inl ⟨rfl,by assumption⟩
    .exact .inr rfl
   have all:∀j:Nat,(j:Int)<s.D.I+1->s.Acks.getD j 0=s.Epoch:=fun j hj=>by
    by_cases h:(j:Int)<s.D.I
    .exact P.a3 c3 j h
    .have ej:s.D.I.toNat=j:=by omega
     rw [ej] at hw;have:=(A.m j _ (zKv (show j<s.Ms.length by omega))).1;omega
   refine ⟨fun _ j hj=>?_,fun c j hj=>?_,fun _=>?_,fun c=>by omega,fun c=>by omega,fun c=>by rw [eN] at c;cases c⟩
   .rw [eA,eE];exact all j (by omega)
   .rw [eX] at hj;rw [eA,eE];exact all j (by omega)
   .rcases P.ph ⟨by omega,by omega⟩ with D | ⟨C,K⟩
    .exact .inl (di c0 D)
    .have kp:=keep rfl eA eE ⟨by omega,eN⟩;exact .inr ⟨cl C,K.imp kp.1 kp.2⟩
 by_cases c4:s.D.PC=4
 .by_cases hw:s.Work=0
  .have e:zV s={s with D:={s.D with PC:=5}}:=by unfold zV;rw [zc (by rw [hd];decide),zc c0,zc c1,zc c2,zc c3,zb c4,zb hw]
   have eP:(zV s).D.PC=5:=by rw [e]
   have eN:(zV s).Done=false:=by rw [e];exact hd
   have eE:(zV s).Epoch=s.Epoch:=by rw [e]
   have eA:(zV s).Acks=s.Acks:=by rw [e]
   have eF:(zV s).Flag=s.Flag:=by rw [e]
   refine ⟨fun c=>by omega,fun c j hj=>by rw [eX] at hj;rw [eA,eE];exact P.a4 (by omega) j hj,fun c=>by omega,fun _=>?_,fun c=>by omega,fun c=>by rw [eN] at c;cases c⟩;rcases P.ph ⟨by omega,by omega⟩ with D | ⟨C,K⟩
   .exact .inl (by rw [eF];exact D.flag I hw)
   .have kp:=keep rfl eA eE ⟨by omega,eN⟩;exact .inr ⟨cl C,kp.2 (K.resolve_left (K1.no n2 (P.a4 (by omega))))⟩
  .exact hD (t:={s with Restarts:=wc (s.Restarts+1),D:={s.D with PC:=0}}) (by unfold zV;rw [zc (by rw [hd];decide),zc c0,zc c1,zc c2,zc c3,zb c4,zc hw]) ⟨hd,by show (0:Int)<=1;decide⟩
 by_cases c5:s.D.PC=5
 .by_cases hw:s.Flag=true
  .exact hD (t:={s with Restarts:=wc (s.Restarts+1),D:={s.D with PC:=0}}) (by unfold zV;rw [zc (by rw [hd];decide),zc c0,zc c1,zc c2,zc c3,zc c4,zb c5,zb hw]) ⟨hd,by show (0:Int)<=1;decide⟩
  .have e:zV s={s with D:={s.D with PC:=6}}:=by unfold zV;rw [zc (by rw [hd];decide),zc c0,zc c1,zc c2,zc c3,zc c4,zb c5,zc hw]
   have eP:(zV s).D.PC=6:=by rw [e]
   have eN:(zV s).Done=false:=by rw [e];exact hd
   have eE:(zV s).Epoch=s.Epoch:=by rw [e]
   have eA:(zV s).Acks=s.Acks:=by rw [e]
   refine ⟨fun c=>by omega,fun c j hj=>by rw [eX] at hj;rw [eA,eE];exact P.a4 (by omega) j hj,fun c=>by omega,fun c=>by omega,fun _=>?_,fun c=>by rw [eN] at c;cases c⟩;obtain ⟨C,K⟩:=(P.p5 c5).resolve_left hw;exact ⟨cl C,(keep rfl eA eE ⟨by omega,eN⟩).2 K⟩
 .have c6:s.D.PC=6:=by omega
  have e:zV s={s with Done:=true}:=by unfold zV;rw [zc (by rw [hd];decide),zc c0,zc c1,zc c2,zc c3,zc c4,zc c5,zb c6]
  have eP:(zV s).D.PC=6:=by rw [e];exact c6
  have eE:(zV s).Epoch=s.Epoch:=by rw [e]
  have eA:(zV s).Acks=s.Acks:=by rw [e]
  refine ⟨fun c=>by omega,fun c j hj=>by rw [eX] at hj;rw [eA,eE];exact P.a4 (by omega) j hj,fun c=>by omega,fun c=>by omega,fun _=>?_,fun _=>eP⟩;obtain ⟨C,K⟩:=P.p6 c6;refine ⟨cl C,K.same eX eT fun i hi _ h=>⟨n2,?_⟩⟩;rw [eA,eE] at h;exact h
theorem PH.worker {p:zd}(hp:zJ p) {nb k:Nat}{s:za}{gh gh':Gh}(hk:k<1000000) (I:EG p nb k s gh) (P:PH p s gh) (hd:s.Done=false) {w:Int}(hw:1<=w/\w<=p.Workers) (I':EG p nb (k+1) (zP s w) gh'):PH p (zP s w) gh':=by
 have hf:=Xa I.G.E w;have eX:(zP s w).Ms=s.Ms:=by rw [hf]
 have eD:(zP s w).D=s.D:=by rw [hf]
 have eN:(zP s w).Done=s.Done:=by rw [hf]
 have eE:(zP s w).Epoch=s.Epoch:=by rw [hf]
 have eA:(zP s w).Acks=s.Acks:=by rw [hf]
 have cl:ZE p s gh->ZE p (zP s w) gh'/\(zP s w).T=s.T:=fun C=>by
  obtain ⟨g2,G2,C2,t⟩:=ZE.worker hp (by omega) I.G C hw hd;exact ⟨C2.to G2 I'.G,t⟩
 have k2:ZE p s gh->K2 s->K2 (zP s w):=fun C K=>K.same eX (cl C).2 fun i hi h ha=>by rw [eD] at h;rw [eA,eE] at ha;exact ⟨h,ha⟩
 refine ⟨by rw [eD,eA,eE];exact P.a3,by rw [eD,eA,eE,eX];exact P.a4,fun c=>?_,fun c=>?_,fun c=>?_,fun c=>by rw [eN,hd] at c;cases c⟩
 .rw [eD] at c;rcases P.ph c with D | ⟨C,K⟩
  .exact .inl (D.worker I.G.E w)
  .exact .inr ⟨(cl C).1,K.imp (fun K=>K.same eX (cl C).2 fun i hi h=>by rw [eD,eA,eE];exact h) (k2 C)⟩
 .rw [eD] at c;have eF:(zP s w).Flag=s.Flag:=by rw [hf]
  rcases P.p5 c with F | ⟨C,K⟩
  .exact .inl (by rw [eF];exact F)
  .exact .inr ⟨(cl C).1,k2 C K⟩
 .rw [eD] at c;obtain ⟨C,K⟩:=P.p6 c;exact ⟨(cl C).1,k2 C K⟩
theorem PH.mutator {p:zd}(hp:zJ p) {nb k:Nat}{s:za}{gh gh':Gh}{W:Int->Int->Prop}(hk:k<1000000) (Q:DI p nb k s gh W) (hd:s.Done=false) {m:Int}(hm:1<=m/\m<=p.Mutators) (I':EG p nb (k+1) (zG s m) gh'):PH p (zG s m) gh':=by
 obtain ⟨I,J,R,O,B,A,P⟩:=Q;have E:=I.G.E;have hml:=E.ml;have hi:(m-1).toNat<s.Ms.length:=by omega
 have ei:(((m-1).toNat:Nat):Int)+1=m:=by omega
 have hx:=zKv hi;generalize s.Ms[(m-1).toNat]=x at hx;have eS:zG s m={(zn s m x).1 with Ms:=s.Ms.set (m-1).toNat (zn s m x).2}:=by
  unfold zG;rw [zc (by rw [hd];rintro (e | e | e)<;>first | cases e | omega),hx]
 have hf:=zkp s m;have eD:(zG s m).D=s.D:=by rw [hf]
 have eN:(zG s m).Done=s.Done:=by rw [hf]
 have eE:(zG s m).Epoch=s.Epoch:=by rw [hf]
 have eA:(zG s m).Acks=(zn s m x).1.Acks:=by rw [eS]
 have eX:(zG s m).Ms=s.Ms.set (m-1).toNat (zn s m x).2:=by rw [eS]
 have eT:(zG s m).T=(zn s m x).1.T:=by rw [eS]
 obtain ⟨⟨b1,b2,b3⟩,b4,b5,b6⟩:=zFA hp E A (m:=m) (by omega) hx;have hA:=A.m _ x hx;have hXO:=E.X _ x hx;rw [ei] at hXO;have stay:∀j:Nat,s.Acks.getD j 0=s.Epoch->(zn s m x).1.Acks.getD j 0=s.Epoch:=fun j hj=>by
  by_cases e:j=(m-1).toNat
  .subst e;omega
  .rw [b4 j e];exact hj
 have cl:ZE p s gh->(ZE p (zG s m) gh'/\∀u,u<=(s.H.Objs.length:Int)->(zR (zG s m).T.Marks u=true↔zR s.T.Marks u=true))\/(vY (zG s m)/\x.PC=3):=fun C=>by
  obtain ⟨g2,G2,h⟩:=ZE.mutator hp (by omega) I.G C hm hd;rcases h with ⟨C2,h⟩ | ⟨D,y,hy,c⟩
  .exact .inl ⟨C2.to G2 I'.G,h⟩
  .rw [hx] at hy;injection hy with hy;subst hy;exact .inr ⟨D,c⟩
 have k1:K1 s->(∀u,u<=(s.H.Objs.length:Int)->(zR (zG s m).T.Marks u=true↔zR s.T.Marks u=true))->K1 (zG s m):=by
  rintro ⟨i,y,o,hy,ha,hpd,hn⟩ hM;have ho:=zuG I.G hy hpd;have hn': ¬zR (zG s m).T.Marks o=true:=fun e=>hn ((hM o ho.2).1 e);by_cases e:i=(m-1).toNat
  .subst e;rw [hx] at hy;injection hy with hy;subst hy;have n2:x.PC≠2:=fun c=>by
    rcases hpd with h | ⟨h,_⟩ | ⟨h,_⟩
    .rw [hA.2.2 c] at h;cases h
    .omega
    .omega
   refine ⟨_,_,o,by rw [eX];exact zLb hi,by rw [eD,eA,eE,zCk s m n2];exact ha,?_,hn'⟩;rcases zBR (I.G.M _ x hx) hXO I.G.B.blk hpd with h | h
   .exact h
   .exact zj (by rw [eT];exact h) hn'
  .exact ⟨i,y,o,by rw [eX,zKP (fun h=>e h.symm)];exact hy,by rw [eD,eA,eE,b4 i e];exact ha,hpd,hn'⟩
 have k2:ZE p s gh->K2 s->(∀u,u<=(s.H.Objs.length:Int)->(zR (zG s m).T.Marks u=true↔zR s.T.Marks u=true))->K2 (zG s m):=fun C K hM=>by
  have old:x.PC=21->x.Old=0\/yB s.T x.Old≠0:=fun c=>by
   rcases O _ x hx c with h | h
   .exact .inl h
   .right;intro h0;have hl:=K.live hp I.G J C h;exact (zJP s.T x.Old).1 h0 hl
  refine ⟨fun i y hy o ho=>?_,fun h2 i y hy ha=>?_⟩
  .rw [eX] at hy;by_cases e:i=(m-1).toNat
   .subst e;rw [zLb hi] at hy;injection hy with hy;subst hy;rcases zzE hXO ho with h | ⟨c,h1,h2,h3⟩ | c
    .exact (hM o (zuG I.G hx h).2).2 (K.1 _ x hx o h)
    .rcases old c with h | h
     .exact zj (h1▸h) h2
     .rw [h1] at h;exact zj h3 h
    .exact zj c (C.noX hx).1
   .rw [zKP (fun h=>e h.symm)] at hy;exact (hM o (zuG I.G hy ho).2).2 (K.1 i y hy o ho)
  .rw [eD] at h2;rw [eA,eE] at ha;rw [eX] at hy;by_cases e:i=(m-1).toNat
   .subst e;rw [zLb hi] at hy;injection hy with hy;subst hy;by_cases c:x.PC=2
    .have e2:zn s m x=mu2 s m x:=by unfold zn;rw [zk,zk,zb c]
     rw [e2];exact ⟨hA.2.2 c,by show (0:Int)≠1;decide,by show (0:Int)≠3;decide,by show (0:Int)≠22;decide⟩
    .rw [zCk s m c] at ha;exact zGO (K.2 h2 _ x hx ha) (fun _=>by omega) old
   .rw [zKP (fun h=>e h.symm)] at hy;rw [b4 i e] at ha;exact K.2 h2 i y hy ha
 have no3:4<=s.D.PC->K2 s->x.PC≠3:=fun h K=>(K.2 (by omega) _ x hx (P.a4 h _ hi)).2.2.1;refine ⟨by rw [eD,eA,eE];exact fun c j hj=>stay j (P.a3 c j hj),by rw [eD,eA,eE,eX,zKV];exact fun c j hj=>stay j (P.a4 c j hj),fun c=>?_,fun c=>?_,fun c=>?_,fun c=>by rw [eN,hd] at c;cases c⟩
 .rw [eD] at c;rcases P.ph c with D | ⟨C,K⟩
  .exact .inl (vY.mutator I.G D (by omega) hd)
  .rcases cl C with ⟨C',hM⟩ | ⟨D,_⟩
   .exact .inr ⟨C',K.imp (fun K=>k1 K hM) (fun K=>k2 C K hM)⟩
   .exact .inl D
 .rw [eD] at c;rcases P.p5 c with F | ⟨C,K⟩
  .left;rw [eS];show (zn s m x).1.Flag=true;rcases zCb s m x with h | h
   .rw [h];exact F
   .exact h
  .rcases cl C with ⟨C',hM⟩ | ⟨_,c3⟩
   .exact .inr ⟨C',k2 C K hM⟩
   .exact zj c3 (no3 (by omega) K)
 .rw [eD] at c;obtain ⟨C,K⟩:=P.p6 c;rcases cl C with ⟨C',hM⟩ | ⟨_,c3⟩
  .exact ⟨C',k2 C K hM⟩
  .exact zj c3 (no3 (by omega) K)
theorem PH.to {p:zd}{nb k k':Nat}{s:za}{gh gh':Gh}(P:PH p s gh) (I:EG p nb k s gh) (I':EG p nb k' s gh'):PH p s gh' :=
 ⟨P.a3,P.a4,fun c=>(P.ph c).imp id (fun h=>⟨h.1.to I.G I'.G,h.2⟩),fun c=>(P.p5 c).imp id (fun h=>⟨h.1.to I.G I'.G,h.2⟩),fun c=>⟨(P.p6 c).1.to I.G I'.G,(P.p6 c).2⟩,P.dn⟩
theorem DI.next {p:zd}(hp:zJ p) {nb k:Nat}{s:za}{gh:Gh}{W:Int->Int->Prop}(hk:k<1000000) (Q:DI p nb k s gh W) (j:Int):∃gh' W',DI p nb (k+1) (vG s j) gh' W':=by
 obtain ⟨gh',W',I',J',_⟩:=zBq hp (by omega) Q.I Q.J j;have A':=(zI1 hp Q.I.G.E (by omega) Q.A j).1;refine ⟨gh',W',?_⟩
 suffices h:RgI p (vG s j)/\(∀(i:Nat) x,(vG s j).Ms[i]? =some x->zyF p (vG s j) x)/\(∀(i:Nat) x,(vG s j).Ms[i]? =some x->zrK x)/\PH p (vG s j) gh' from ⟨I',J',h.1,h.2.1,h.2.2.1,by have:=A';rw [show ((k:Int)+1)=((k+1:Nat):Int) by omega] at this;exact this,h.2.2.2⟩
 have keep:∀ {t:za},t.H=s.H->t.Ms=s.Ms->RgI p t/\(∀(i:Nat) x,t.Ms[i]? =some x->zyF p t x)/\(∀(i:Nat) x,t.Ms[i]? =some x->zrK x):=fun eH eX =>
  ⟨⟨by rw [eH];exact Q.R.hp,by rw [eH,eX];exact Q.R.rg⟩,fun i x hx=>by rw [eX] at hx;unfold zyF;rw [eH];exact Q.O i x hx,fun i x hx=>by rw [eX] at hx;exact Q.B i x hx⟩
 have fin:∀ {t:za},t.H=s.H->t.Ms=s.Ms->PH p t gh'->RgI p t/\(∀(i:Nat) x,t.Ms[i]? =some x->zyF p t x)/\(∀(i:Nat) x,t.Ms[i]? =some x->zrK x)/\PH p t gh':=fun eH eX P=>⟨(keep eH eX).1,(keep eH eX).2.1,(keep eH eX).2.2,P⟩
 cases hd:s.Done with
 | true =>
  rw [ziN hd] at I' ⊢;exact fin rfl rfl (Q.P.to Q.I I')
 | false =>
  have hwl:=Q.I.G.E.wl;have hml:=Q.I.G.E.ml;revert I';unfold vG;split
  .intro I';have hf:=zaY s;exact fin (by conv=>rhs;rw [<-hf]) (by conv=>rhs;rw [<-hf]) (PH.det hp hk Q.I Q.A Q.P hd I')
  split
  .intro I';by_cases h1:1<=j
   .have hf:=Xa Q.I.G.E j;exact fin (by rw [hf]) (by rw [hf]) (PH.worker hp hk Q.I Q.P hd (by omega) I')
   .have:zP s j=s:=by unfold zP;rw [zb (.inr (.inl (by omega)))]
    rw [this] at I' ⊢;exact fin rfl rfl (Q.P.to Q.I I')
  .intro I';by_cases h1:1<=j-(s.Ws.length:Int)/\j-(s.Ws.length:Int)<=(s.Ms.length:Int)
   .generalize j-(s.Ws.length:Int)=m at h1 I' ⊢;refine ⟨Q.R.step hp Q.I.G.E m,?_⟩;have hPH:=PH.mutator hp hk Q hd (m:=m) (by omega) I';refine ⟨fun i y hy=>?_,fun i y hy=>?_,hPH⟩
    all_goals
     have hi:(m-1).toNat<s.Ms.length:=by omega
     have ei:(((m-1).toNat:Nat):Int)+1=m:=by omega
     have hx:=zKv hi;generalize s.Ms[(m-1).toNat]=x at hx;have eS:zG s m={(zn s m x).1 with Ms:=s.Ms.set (m-1).toNat (zn s m x).2}:=by
      unfold zG;rw [zc (by rw [hd];rintro (e | e | e)<;>first | cases e | omega),hx]
     rw [eS] at hy;have hy:(s.Ms.set (m-1).toNat (zn s m x).2)[i]? =some y:=hy
    .have hrg:=zAH (m:=m) hp Q.I.G.E.H Q.R.hp (Q.R.rg x (zKy hx));rw [eS];have up:∀ {v:Int},v=0\/LvH p s.H v->v=0\/LvH p (zn s m x).1.H v:=fun h=>h.imp id (fun L=>L.mono hrg.2.2);show zyF p (zn s m x).1 y;have hXO:=Q.I.G.E.X _ x hx;by_cases e:i=(m-1).toNat
     .subst e;rw [zLb hi] at hy;injection hy with hy;subst hy;intro c;by_cases cx:x.PC=21
      .exfalso;revert c;have e21:zn s m x=VR s m x:=by
        unfold zn;rw [zk,zk,zk,zk,zk,zk,zb cx]
       rw [e21];unfold VR;dsimp only;split<;>(dsimp only;omega)
      .exact up (zH3 Q.I.G.E.S.P Q.R.hp (Q.R.rg x (zKy hx)) (fun h=>hXO.ret (.inl h)) c cx)
     .rw [zKP (fun h=>e h.symm)] at hy;exact fun c=>up (Q.O i y hy c)
    .by_cases e:i=(m-1).toNat
     .subst e;rw [zLb hi] at hy;injection hy with hy;subst hy;exact zG9 (Q.B _ x hx)
     .rw [zKP (fun h=>e h.symm)] at hy;exact Q.B i y hy
   .have:zG s (j-(s.Ws.length:Int))=s:=by unfold zG;rw [yg]
    rw [this] at I' ⊢;exact fin rfl rfl (Q.P.to Q.I I')
theorem zGa {p:zd}{nb k:Nat}{s:za}{gh:Gh}(I:EG p nb k s gh) (C:ZE p s gh) (K:K2 s) (h2:s.D.PC≠2) (ha:∀j:Nat,j<s.Ms.length->s.Acks.getD j 0=s.Epoch):s.Work=0:=by
 have hw:=I.wk;rw [C.bag] at hw;have z:WW s=0:=by
  unfold WW;have z1:(s.Ws.map owW).sum=0:=zuW (fun v hv=>by
   obtain ⟨x,hx,rfl⟩:=zKE.1 hv;obtain ⟨i,hi⟩:=zLA.1 hx;unfold owW;rw [zc (C.w9 i x hi),zc (C.noW hi).2.1])
  have z2:(s.Ms.map owX).sum=0:=zuW (fun v hv=>by
   obtain ⟨x,hx,rfl⟩:=zKE.1 hv;obtain ⟨i,hi⟩:=zLA.1 hx;have:=(K.2 h2 i x hi (ha i (zKC.1 hi).1)).2.2.1;have:=(C.noX hi).2.1;unfold owX;rw [zc (C.m39 i x hi),zk])
  omega
 rw [hw,z];rfl
theorem DI.done {p:zd}(hp:zJ p) {nb k:Nat}{s:za}{gh:Gh}{W:Int->Int->Prop}(Q:DI p nb k s gh W) (hd:s.Done=true) :
  s.Work=0/\(∀o,yB s.T o≠1)/\(∀(i:Nat) x,s.Ms[i]? =some x->x.Buf=[]/\x.Batch=[]/\x.Obj=0)/\(∀o,LvH p s.H o->zR s.T.Marks o=true):=by
 have c6:=Q.P.dn hd;obtain ⟨C,K⟩:=Q.P.p6 c6;have G:=Q.I.G;have qx:∀(i:Nat) x,s.Ms[i]? =some x->zmA x:=fun i x hx=>K.2 (by omega) i x hx (Q.P.a4 (by omega) i (zKC.1 hx).1);refine ⟨?_,fun o ho=>?_,fun i x hx=>?_,fun o L=>K.live hp G Q.J C L⟩
 .exact zGa Q.I C K (by omega) (Q.P.a4 (by omega))
 .have:=(G.B.gr o).2 ho;rw [C.bag] at this;cases this
 .have hn:=C.noX hx;have h39:=C.m39 i x hx;refine ⟨(qx i x hx).1,hn.2.2.2,(Q.B i x hx).resolve_right (by omega)⟩
theorem zJF {p:zd}(h:zJ p):DI p (yh p+1) 0 (xk p) (gh0 p) (fun _ _=>False):=by
 have hms:∀(i:Nat) x,(xk p).Ms[i]? =some x->x.PC=0/\x.Obj=0:=fun i x hx=>by
  obtain ⟨r,_,e⟩:=zKE.1 (show x∈p.Regs.map wp from zKy hx);rw [<-e];exact ⟨rfl,rfl⟩
 have e0:(xk p).D.PC=0:=rfl;exact ⟨zCn h,zFs h,zGD h,fun i x hx c=>by have:=(hms i x hx).1;omega,fun i x hx=>.inl (hms i x hx).2,zJj p,⟨fun c=>by omega,fun c=>by omega,fun c=>by omega,fun c=>by omega,fun c=>by omega,fun c=>by cases c⟩⟩
namespace B20
def TI (p:zd) (k:Nat) (s:za):Prop:=∃k' gh W,k'<=k/\EG p (yh p+1) k' s gh/\PI p s W/\BN p s/\PD p s
theorem zFB {p:zd}(h:zJ p):TI p 0 (xk p):=⟨0,gh0 p,_,by omega,zCn h,zFs h,zFX h,zF9 h⟩
theorem TI.next {p:zd}(hp:zJ p) {k:Nat}{s:za}(hk:k<1000000) (I:TI p k s) {x:zm}(hx:zaH p x):TI p (k+1) (Yr s x):=by
 obtain ⟨k',gh,W,h1,I,J,B,D⟩:=I;obtain ⟨gh',W',I',J',_⟩:=zBq hp (by omega) I J (zdj p x);rw [zzg hp I.G.E hx];exact ⟨k'+1,gh',W',by omega,I',J',B.next hp (by omega) I.G (zdj p x),D.next hp (by omega) I.G (zdj p x)⟩
theorem TI.run {p:zd}(hp:zJ p):∀(l:List zm) {k:Nat}{s:za},(∀x∈l,zaH p x)->k+l.length<1000000->TI p k s->TI p (k+l.length) (zbX s l).1
 | [],k,s,_,_,I=>I
 | x::l,k,s,hx,hk,I=>by
  rw [zKM] at hk ⊢;rw [zsr];split
  .obtain ⟨k',gh,W,h1,r⟩:=I;exact ⟨k',gh,W,by omega,r⟩
  .have:=TI.run hp l (fun y hy=>hx y (zKA _ hy)) (by omega) (I.next hp (by omega) (hx x (zKJ ..)));rwa [show k+1+l.length=k+(l.length+1) by omega] at this
theorem TI.right {p:zd}(hp:zJ p) {k:Nat}{s:za}(I:TI p k s):UI s=some (true,())/\X4 s=some (true,())/\UD s=some (true,())/\Wb s=some (true,())/\zbp s=some (true,())/\(W2 s=some (true,())->zbL s=some (true,())):=by
 obtain ⟨k',gh,W,h1,I,J,B,D⟩:=I;have a1:=zFN hp I.G;have a2:=zC9 hp I;have a3:=zGt hp I.G J;have a4:=zDa hp I.G B;have a5:=zHn hp I.G D;exact ⟨a1,a2,a3,a4,a5,fun a6=>zAZ a1 a2 a3 a4 a5 a6 (zIT hp I.G.E.H)⟩
theorem zsH {s:za}(h:s.Done=false):W2 s=some (true,()):=by rw [zpp,h];rfl
def zrV (a b:za):Bool :=
 if b.L.Scanned<a.L.Scanned then false else if b.Epoch<a.Epoch then false else if (zew a b).1=1 then zR (zqe a) (zew a b).2 else if (zew a b).1=2 then zR (VI a) (zew a b).2 else !(decide ((zew a b).1= -1))
theorem zsM {p:zd}(hp:zJ p) {a b:za}(ha:EOk p (yh p+1) a) (hb:HOk p b.H):zdZ a b=some (zrV a b,()):=by
 have hw:=hp.wk;have hm:=hp.mt;have wl:=ha.wl;have ml:=ha.ml;unfold zrV;rw [zyG,zmF hp ha.H hb,zKt];dsimp only;rw [zp,zp,zp,zp];split
 .rfl
 split
 .rfl
 split
 .rw [zlG ha.small (by omega) (by omega),zKt,zl9,zlw];rfl
 split
 .rw [zgr,zKt,zl9,zlw];rfl
 .rfl
theorem zGw {A B D:Type}{f:A->Option (yL A B D)}{x y:A}{b:B}(h1:f x=some (.again y)) (h:f y=some (.brk b)):yf f x=some (.brk b):=by
 rw [Xh];show yZ f (18446744073709551614+1+1) x=_;rw [yZ,h1,zKt];dsimp only;rw [yZ,h];rfl
def zAl:List zE:=[⟨5,1,0,0⟩,⟨2,1,0,0⟩,⟨3,1,0,0⟩]
def pEx:zd:=⟨1,1,2,1,1,4,2,2,⟨1,[[2],[0],[0]]⟩,1#64,[[1,0]],[zAl],[]⟩
theorem zHO:zcP [zAl]=some (pEx,()):=by
 rw [zpb,zGw (by rw [zcK,zp,zb (by decide),yQ (by decide),zKt,v8 (by decide)];simp only [Int.toNat_zero,zLy,zKt];rw [yQ (by decide),zKt,yb (by decide) (by decide)]) (by rw [zcK,zp,zc (by decide)])];rfl
theorem zpE:zJ pEx:=by
 constructor
 case objs=>intro o ho;simp [pEx] at ho ⊢;rcases ho with rfl | rfl | rfl<;>simp
 case roots=>exact ⟨1,by decide,by decide,by decide⟩
 case reg=>intro r hr;simp [pEx] at hr ⊢;subst hr;simp
 case prog =>
  intro k r ops hr ho;cases k with
  | succ k=>cases ho
  | zero =>
   injection hr with hr;injection ho with ho;subst hr;subst ho;refine ⟨by decide,fun o h=>?_⟩;simp [zAl] at h;rcases h with rfl | rfl | rfl
   .exact ⟨by decide,.inr (.inr ⟨.inr rfl,rfl,rfl⟩)⟩
   .exact ⟨by decide,.inl ⟨.inr rfl,by decide,by decide⟩⟩
   .exact ⟨by decide,.inr (.inr ⟨.inl rfl,rfl,rfl⟩)⟩
 all_goals first | decide | rfl
def mEx (n:Nat):List zm:=zMr n ⟨2,1⟩
def rEx (n:Nat):za:=(zbX (xk pEx) (mEx n)).1
theorem zIf {n:Nat}(h:n<=8):TI pEx 8 (rEx n):=by
 have:=TI.run zpE (mEx n) (fun x hx=>by rw [zMj hx];exact .inr (.inr ⟨rfl,by decide,by decide⟩)) (by rw [mEx,zLa];omega) (zFB zpE);rw [mEx,zLa] at this;obtain ⟨k,gh,W,h1,r⟩:=this;exact ⟨k,gh,W,by omega,r⟩
theorem zhg {n:Nat}(h:n<=8):EOk pEx (yh pEx+1) (rEx n):=by
 obtain ⟨k,gh,W,h1,I,_⟩:=zIf h;exact I.G.E
theorem zxa {n:Nat}(h:n<=8):Vd (xk pEx) (mEx n)=some (rEx n,(zbX (xk pEx) (mEx n)).2,()):=zEM zpE (zAM zpE) (by rw [mEx,zLa];omega)
theorem zz7:zaN=some (true,()):=by
 have h:=zpE;have E0:=zAM h;have c5:cut (mEx 8) 0 5=some (mEx 5):=by kernel_rfl
 have c6:cut (mEx 8) 0 6=some (mEx 6):=by kernel_rfl
 have c7:cut (mEx 8) 0 7=some (mEx 7):=by kernel_rfl
 have c8:cut (mEx 8) 0 8=some (mEx 8):=by kernel_rfl
 have m1:zew (rEx 5) (rEx 6)=(4,1):=by decide +kernel
 have m2:zew (rEx 7) (rEx 8)=(3,4):=by decide +kernel
 have m3:(zew (rEx 8) (rEx 7)).1= -1:=by decide +kernel
 have m4:(zew (xk pEx) (xk pEx)).1=0:=by decide +kernel
 have f8:zgk pEx (rEx 8)=8#64:=by decide +kernel
 have f0:zgk pEx (xk pEx)=0#64:=by decide +kernel
 have l1:zrV (rEx 5) (rEx 6)=true:=by decide +kernel
 have l2:zrV (rEx 7) (rEx 8)=true:=by decide +kernel
 have l3:zrV (rEx 8) (rEx 7)=false:=by decide +kernel
 have d0:=zsH (s:=xk pEx) rfl;have d8:=zsH (s:=rEx 8) (by decide +kernel);obtain ⟨t1,t2,t3,t4,_,t6⟩:=(zFB h).right h;obtain ⟨_,_,_,_,u5,u6⟩:=(zIf (n:=8) (by decide)).right h;rw [zlW,show ([([zE.mk 5 1 0 0,zE.mk 2 1 0 0,zE.mk 3 1 0 0]:List zE)]:List (List zE))=[zAl] from rfl,zHO,zKt,zzm h,zKt];dsimp only;rw [show ([zm.mk 2 1,zm.mk 2 1,zm.mk 2 1,zm.mk 2 1,zm.mk 2 1,zm.mk 2 1,zm.mk 2 1,zm.mk 2 1]:List zm)=mEx 8 from rfl,c5,zKt,zxa (n:=5) (by decide),zKt,c6,zKt,zxa (n:=6) (by decide),zKt,c7,zKt,zxa (n:=7) (by decide),zKt,c8,zKt,zxa (n:=8) (by decide),zKt];dsimp only;rw [zmF h (zhg (n:=5) (by decide)).H (zhg (n:=6) (by decide)).H,zKt,zmF h (zhg (n:=7) (by decide)).H (zhg (n:=8) (by decide)).H,zKt,zmF h (zhg (n:=8) (by decide)).H (zhg (n:=7) (by decide)).H,zKt,zmF h E0.H E0.H,zKt,t6 d0,zKt];dsimp only;rw [zu,u6 d8,zKt];dsimp only;rw [zu,m1,m2,m3,m4];dsimp only;rw [zr rfl,zu,zr rfl,zu,zr rfl,zu,zu,zr rfl,zu,zr rfl,zu,znM (p:=pEx) (zhg (n:=8) (by decide)).S.P,zKt,f8];dsimp only;rw [zr rfl,zu,znM (p:=pEx) E0.S.P,zKt,f0];dsimp only;rw [zr rfl,zu,zsM h (zhg (n:=5) (by decide)) (zhg (n:=6) (by decide)).H,zKt,l1];dsimp only;rw [zu,zsM h (zhg (n:=7) (by decide)) (zhg (n:=8) (by decide)).H,zKt,l2];dsimp only;rw [zu,zsM h (zhg (n:=8) (by decide)) (zhg (n:=7) (by decide)).H,zKt,l3];dsimp only;rw [Bool.not_false,zu,t1,zKt];dsimp only;rw [zu,t2,zKt];dsimp only;rw [zu,t3,zKt];dsimp only;rw [zu,t4,zKt];dsimp only;rw [zu,u5,zKt];dsimp only;rw [zu,d0];rfl
def zEX (x:zi):Prop:=x.Obj=0\/x.PC=5\/x.PC=6\/x.PC=8\/x.PC=9
theorem zd9 (s:za) (n:Int):onW s n=8\/onW s n=5:=by unfold onW;split<;>simp
theorem zGL {s:za}{w:Int}{x:zi}(h:zEX x):zEX (zB s w x).2:=by
 have out:∀ {y:zi},y.Obj=x.Obj->¬(x.PC=5\/x.PC=6\/x.PC=8\/x.PC=9)->zEX y:=fun e hn=>.inl (e.trans (h.resolve_right hn));unfold zB;split
 .dsimp only;split
  .exact .inr (.inl rfl)
  .split
   .unfold Zk;split<;>exact out rfl (by omega)
   .exact out rfl (by omega)
 split
 .dsimp only;split
  .exact out rfl (by omega)
  .split<;>exact out rfl (by omega)
 split
 .exact out rfl (by omega)
 split
 .dsimp only;split<;>exact out rfl (by omega)
 split
 .have:=zd9 s (wc (x.Slot+1));dsimp only;split
  .exact .inr (by dsimp only;omega)
  .exact .inr (.inr (.inl rfl))
 split
 .have:=zd9 s x.Slot;rename_i c;dsimp only;split
  .exact .inr (by dsimp only;omega)
  .exact .inr (.inr (.inl c))
 split
 .dsimp only;split
  .exact out rfl (by omega)
  .exact .inr (.inl rfl)
 split
 .exact .inr (.inr (.inr (.inr rfl)))
 split
 .exact .inl rfl
 .exact h
def OW (s:za):Prop:=∀(i:Nat) x,s.Ws[i]? =some x->zEX x
theorem OW.next {s:za}(O:OW s) (j:Int):OW (vG s j):=by
 unfold vG;split
 .have hf:=congrArg za.Ws (zaY s);have hf:(zV s).Ws=s.Ws:=hf;intro i x hx;rw [hf] at hx;exact O i x hx
 split
 .unfold zP;split
  .exact O
  .split
   .rename_i x hx;intro i y hy;have hy:(s.Ws.set (j-1).toNat (zB s j x).2)[i]? =some y:=hy;rw [zLg] at hy;split at hy
    .split at hy
     .injection hy with hy;rw [<-hy];exact zGL (O _ x hx)
     .cases hy
    .exact O i y hy
   .exact O
 .rw [zkp];exact O
theorem zCh {v:Int}:∀(l:List Int) (a:BitVec 64),zR (l.foldl (fun s o=>s|||bit o) a) v=true->zR a v=true\/v∈l
 | [],a,h=>.inl h
 | o::l,a,h=>by
  rcases zCh l _ h with h | h
  .rcases Xd h with h | rfl
   .exact .inl h
   .exact .inr (zKJ ..)
  .exact .inr (zKA _ h)
theorem zCl {v:Int}:∀(l:List ze) (a:BitVec 64),zR (zxl a l) v=true->zR a v=true\/∃x∈l,v∈x.Regs
 | [],a,h=>.inl h
 | x::l,a,h=>by
  rcases zCl l _ h with h | ⟨y,hy,h⟩
  .rcases (xO _ _ _).1 h with h | h
   .exact .inl h
   .rcases zCh _ _ h with h | h
    .exact zj h (uI v)
    .exact .inr ⟨x,zKJ ..,h⟩
  .exact .inr ⟨y,zKA _ hy,h⟩
theorem zBt {v:Int}:∀(l:List ze) (a:BitVec 64),(∀x∈l,x.Buf=[])->zR (l.foldl zaI a) v=true->zR a v=true\/∃x∈l,zeO x/\v=x.Old
 | [],a,_,h=>.inl h
 | x::l,a,hb,h=>by
  rcases zBt l _ (fun y hy=>hb y (zKA _ hy)) h with h | ⟨y,hy,h⟩
  .have e:WV x.Buf=0#64:=by rw [hb x (zKJ ..)];rfl
   unfold zaI at h;rw [e,BitVec.or_zero] at h;split at h
   .rename_i c;rcases (xO _ _ _).1 h with h | h
    .exact .inl h
    .exact .inr ⟨x,zKJ ..,c,zvk h⟩
   .exact .inl h
  .exact .inr ⟨y,zKA _ hy,h⟩
theorem zIx {p:zd}(hp:zJ p) {s:za}(hP:s.P=p) (I:RgI p s) {o:Int}(h:Reach s.H (s.P.Roots|||zxl 0#64 s.Ms) o):LvH p s.H o:=by
 have hn:=hp.n;rw [hP] at h;have key:∀o,zR (p.Roots|||zxl 0#64 s.Ms) o=true->(1<=o/\o<=(s.H.Objs.length:Int))->LvH p s.H o:=fun o h1 h2=>by
  rcases (xO _ _ _).1 h1 with h | h
  .have g:zR (uB p) o=true:=zsg (by have:=(xw _ _).1 h;omega) _ _ (.inl h);have:=(zCn hp).G.mrk o g;exact .inl (.root o g ⟨h2.1,this⟩)
  .rcases zCl _ _ h with h | ⟨x,hx,h⟩
   .exact zj h (uI o)
   .exact (I.rg x hx o h).resolve_left (by omega)
 induction h with
 | root o h1 h2=>exact key o h1 h2
 | step o v _ h2 h3 ih=>exact (I.hp o v ih h2).resolve_left (by omega)
theorem zHx {p:zd}(h:zJ p) {k:Nat}{s:za}{gh:Gh}{W:Int->Int->Prop}(Q:DI p (yh p+1) k s gh W) (O:OW s):W2 s=some (true,()):=by
 cases hd:s.Done with
 | false=>exact zsH hd
 | true =>
  have hw:=h.wk;have hm:=h.mt;have hn:=h.n;have hmo:=h.most;obtain ⟨d1,d2,d3,d4⟩:=Q.done h hd;have c6:=Q.P.dn hd;obtain ⟨C,K⟩:=Q.P.p6 c6;have G:=Q.I.G;have E:=G.E;have wl:=E.wl;have ml:=E.ml;have hN:=E.H.n;have hP:=E.S.P;have qx:∀(i:Nat) x,s.Ms[i]? =some x->zmA x:=fun i x hx=>K.2 (by omega) i x hx (Q.P.a4 (by omega) i (zKC.1 hx).1);have ix:∀x∈s.Ms,∃i,s.Ms[i]? =some x:=fun x hx=>zLA.1 hx;have iw:∀x∈s.Ws,∃i,s.Ws[i]? =some x:=fun x hx=>zLA.1 hx;have hg:VI s=0#64:=(zcD _ _).2 (fun o ho=>by
   refine Decidable.byContradiction fun hb=>d2 o ((uw _ _).2 ⟨ho,hb⟩))
  have q1:ZG (VI s)=[]:=by rw [hg];decide
  have q2:s.Ws.any zj4=false:=zL8.2 (fun x hx=>by
   obtain ⟨i,hi⟩:=iw x hx;have hno:=C.noW hi;have h9:=C.w9 i x hi;have hb:x.Batch=[]:=zMp.2 fun o ho=>by
    have:=zfU (p:=p) (gh:=gh) hi (show o∈ya s x from zKO _ ho);rw [C.bag] at this;cases this
   have ho:=(O i x hi).resolve_right (by omega);unfold zj4;rw [hb,ho];decide)
  have q3:s.Ms.any zmb=false:=zL8.2 (fun x hx=>by
   obtain ⟨i,hi⟩:=ix x hx;obtain ⟨a,b,c⟩:=d3 i x hi;unfold zmb;rw [a,b,c];decide)
  have hq:zvA s=true:=by unfold zvA;rw [q1,q2,q3];rfl
  have hmach:uZ s=[]:=by
   unfold uZ;rw [List.filter_eq_nil_iff.2 (fun x hx=>by
    obtain ⟨i,hi⟩:=iw x hx;have:=(C.noW hi).2.1;simpa using this),List.filter_eq_nil_iff.2 (fun x hx=>by
    obtain ⟨i,hi⟩:=ix x hx;have:=(C.noX hi).2.1;have:=(qx i x hi).2.2.1;simp;omega)]
   rfl
  have u:(zIe s|||zqe s)&&& ~~~s.T.Marks=0#64:=(zcD _ _).2 (fun o ho=>by
   rcases (xO _ _ _).1 ho with ho | ho
   .exact d4 o (zIx h hP Q.R ((zsS (by omega) E.small.obj _ o).1 ho))
   .unfold zqe at ho;rw [hmach] at ho;rcases zBt _ _ (fun x hx=>by obtain ⟨i,hi⟩:=ix x hx;exact (d3 i x hi).1) ho with ho | ⟨x,hx,hold,e⟩
    .exact zj ho (uI o)
    .obtain ⟨i,hi⟩:=ix x hx;obtain ⟨_,n1,n3,n22⟩:=qx i x hi;have h21:x.PC=21:=by unfold zeO at hold;omega
     have hb:=(xw _ _).1 ho;rcases Q.O i x hi h21 with h0 | h0
     .exfalso;have:1<=o:=by
       have:=((xw _ _).1 ho).1;omega
      omega
     .rw [e];exact d4 _ h0)
  rw [zpp,hd,zKI,zM,zDW h G,zKt,hq];dsimp only;rw [zu,zFC E.small (by omega),zKt,zlG E.small (by omega) (by omega),zKt,Y7,zKt];dsimp only;rw [u,zr rfl,zu,d1];rfl
theorem triRight_plain (l m:List (BitVec 8)):Ye l m=some (true,()):=by
 obtain ⟨p,ep,h⟩:=zIp l;obtain ⟨ps,epk,hl,hok⟩:=zG2 h m 300 (by decide);have epk:Ue p m 300=some (ps,()):=epk;rw [zmL,zz7];simp only [zKt,zKI,zM,ep,zzm h,epk];obtain ⟨e,_⟩:=ZM (f:=Zf) (fun j s=>(true,(ps.length:Int),j,s,ps,())) (fun _=>(true,())) ps (by omega) Yr (fun (i:Nat) s=>(∃gh W,DI p (yh p+1) i s gh W)/\BN p s/\PD p s/\OW s) (s:=xk p) ⟨⟨_,_,zJF h⟩,zFX h,zF9 h,fun i x hx=>by
   have hx:=zKy hx;obtain ⟨w,_,e⟩:=zKE.1 (show x∈(zMt p.Workers.toNat).map (ub p) from hx);rw [<-e];exact .inl rfl⟩
  (fun (i:Nat) s x hx hi ⟨⟨gh,W,Q⟩,B,D,O⟩=>by
   have hxo:=hok x (zKy hx);have E:=Q.I.G.E;have es:=zzg h E hxo;obtain ⟨gh',W',Q'⟩:=Q.next h (by omega) (zdj p x);have B':=B.next h (by omega) Q.I.G (zdj p x);have D':=D.next h (by omega) Q.I.G (zdj p x);have O':=O.next (zdj p x);rw [<-es] at Q' B' D' O';refine ⟨⟨⟨gh',W',Q'⟩,B',D',O'⟩,?_⟩;have en:=zHx h Q' O';obtain ⟨t1,t2,t3,t4,t5,t6⟩:=TI.right h (k:=i+1) ⟨i+1,gh',W',zKz _,Q'.I,Q'.J,B',D'⟩;show Zf (true,(ps.length:Int),(i:Int),s,ps,())=_;rw [zaW,zp,yg,vS,zKt,zLd,hx,zKt,zt3 h E,zKt];dsimp only;rw [t1,zKt];dsimp only;rw [zKI,zM,t2,zKt];dsimp only;rw [zKI,zM,t3,zKt];dsimp only;rw [zKI,zM,t4,zKt];dsimp only;rw [zKI,zM,t5,zKt];dsimp only;rw [zKI,zM,en,zKt];dsimp only;rw [zKI,zM,t6 en,zKt];dsimp only;rw [zKI,zM,yM])
  (fun s _=>by
   show Zf (true,(ps.length:Int),(ps.length:Int),s,ps,())=_;rw [zaW,zp,zk])
 rw [e];rfl
end B20
end
end Go.Pe.G
