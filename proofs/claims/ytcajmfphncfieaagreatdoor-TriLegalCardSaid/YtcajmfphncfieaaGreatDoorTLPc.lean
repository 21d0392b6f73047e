/- Own work of this seat: PTriK, PEngN, PLaw20. -/
import Derived.Test.YtcajmfphncfieaaGreatDoorTLPb
import Derived.Test.YtcajmfphncfieaaGreatDoorTLPa
set_option linter.unusedVariables false
set_option linter.unusedSimpArgs false
set_option linter.unnecessarySimpa false
set_option linter.unusedSectionVars false
set_option linter.deprecated false
set_option maxRecDepth 20000
open BitVec renaming toNat_and → zLK, getLsbD_and → zLT, eq_of_getLsbD_eq → zL9, getLsbD_not → zMm
open Bool renaming and_eq_true → zKF, not_true → zKY
open Int renaming le_refl → zK6, toNat_natCast → zLn
open List renaming getElem?_eq_getElem → zKG, getD_eq_getElem?_getD → zKH, append_nil → zKI, mem_of_getElem? → zKK, mem_cons_of_mem → zKN, mem_map → zKT, length_cons → zKV, mem_cons_self → zK2, length_replicate → zLl, foldl_cons → zLv, length_map → zLA, sum_cons → zLE, getElem?_cons_zero → zLJ, length_filter_le → zLS, eq_of_mem_replicate → zMu
open Option renaming bind_some → zKE
namespace Go.Pe.G
open Go.Pe
noncomputable section
theorem zDq (s:za) (g:zJ) (h:g.PC≠1):(zG s g).1.T=s.T:=by
 unfold zG;split
 .rfl
 split
 .rfl
 split
 .rfl
 split
 .rfl
 split
 .rfl
 split
 .rfl
 split
 .rfl
 rfl
theorem zIF (s:za) (m:Int) (x:ze):(zt s m x).1.H=s.H\/((zt s m x).1.T=s.T/\(zt s m x).1.H=xM s.H (wX x (opM s.P m x).A) (opM s.P m x).S (wX x (opM s.P m x).R))\/x.PC=30:=by
 refine xZ (motive:=fun r=>r.1.H=s.H\/(r.1.T=s.T/\r.1.H=xM s.H (wX x (opM s.P m x).A) (opM s.P m x).S (wX x (opM s.P m x).R))\/x.PC=30) s m x ?_ ?_ ?_ ?_ ?_ ?_ ?_ ?_ ?_ ?_ ?_ ?_ ?_ ?_ ?_ ?_ ?_ ?_ ?_ ?_
 all_goals first
  | exact fun _=>.inl rfl
  | exact fun _=>.inr (.inl ⟨rfl,rfl⟩)
  | exact fun c=>.inr (.inr c)
  | (intro c;unfold mu3;exact .inl (by dsimp only;rw [uf]))
  | (intro c;unfold za5;exact .inl (by dsimp only;rw [uf]))
  | exact .inl rfl
theorem zFv {n:Nat}{h:zr}(hs:∀x∈h.Objs,x.length=n) (a i v:Int):xM h a i v=h\/(yz h a i=true/\zW h a i≠v/\xM h a i v={h with Objs:=h.Objs.set (a-1).toNat ((zR h a).set i.toNat v)}):=by
 by_cases hp:xM h a i v=h
 .exact .inl hp
 refine .inr ?_;have hd:yz h a i=true/\xM h a i v={h with Objs:=h.Objs.set (a-1).toNat ((zR h a).set i.toNat v)}:=by
  unfold xM at hp ⊢;split
  .rename_i c;exact ⟨c.1,rfl⟩
  .rename_i c;rw [zc c] at hp;exact zm rfl hp
 refine ⟨hd.1,fun e=>hp ?_,hd.2⟩;have hb:=hd.1;unfold yz at hb;simp only [zKF,decide_eq_true_eq] at hb;obtain ⟨⟨⟨b1,b2⟩,b3⟩,b4⟩:=hb;have hg:zW h a i=(zR h a).getD i.toNat 0:=by unfold zW;rw [zb hd.1]
 rw [hg,zKH,zKG (show i.toNat<(zR h a).length by omega)] at e;have e:(zR h a)[i.toNat]'(by omega)=v:=e;have e1:(zR h a).set i.toNat v=zR h a:=by rw [<-e];exact List.set_getElem_self _
 have e2:zR h a=h.Objs[(a-1).toNat]'(by omega):=by unfold zR;rw [zKH,zKG (show (a-1).toNat<h.Objs.length by omega)];rfl
 rw [hd.2,e1,e2,List.set_getElem_self]
theorem zEW {p:zd}(hp:zI p) {nb k:Nat}{s:za}{gh:Gh}(hk:k<4294960000) (G:FG p nb k s gh) (j:Int):zEK s (uW s j):=by
 have hN:=G.E.H.n;have hn:=hp.n;have hmo:=hp.most;cases hd:s.Done with
 | true=>rw [ziw hd];exact .none rfl rfl
 | false =>
  have hwl:=G.E.wl;have hml:=G.E.ml;unfold uW;split
  .have hf:=zeW s;exact .none (by conv=>rhs;rw [<-hf]) (by conv=>rhs;rw [<-hf])
  split
  .by_cases h1:1<=j;rotate_left
   .have:zS s j=s:=by unfold zS;rw [zb (.inr (.inl (by omega)))]
    rw [this];exact .none rfl rfl
   obtain ⟨gh',G',_,x,hx,N,C,hb,hT⟩:=G.worker hp hk (show 1<=j/\j<=p.Workers by omega) hd;have e0: ¬(s.Done=true\/j<1\/(s.Ws.length:Int)<j):=by rw [hd];rintro (e | e | e)<;>first | cases e | omega
   have es:zS s j={(zu s j x).1 with Ws:=s.Ws.set (j-1).toNat (zu s j x).2}:=by unfold zS;rw [zc e0,hx]
   have eH:(zS s j).H=s.H:=by rw [W3 G.E j]
   have eT:(zS s j).T=(zu s j x).1.T:=by rw [es]
   rcases hT with ⟨_,_,t⟩ | ⟨_,_,h6,hm,t⟩ | ⟨_,hC,h8,t⟩
   .exact .none (eT.trans t) eH
   .have K:=(G.W _ x hx).p6 h6;have hob:=K.1.ob;refine .shade x.G.Obj hob ((uJ hob).1 hm) (eT.trans t) eH (.inl ⟨_,x,hx,h6,K.2.2.2,?_,rfl⟩);refine .inr (Decidable.byContradiction fun hne=>hm ?_);have e6:(zu s j x).1=(zG s x.G).1:=by
     unfold zu;rw [zi,zi,zi,zi,zi,zb h6]
    rw [e6,zDq s x.G hne] at t;exact (congrArg zn.Marks t).symm
   .have hg:yp s.T x.Obj=1:=(G.B.gr _).1 (zpH hx (zzp (.inr (.inr h8))));refine .scan x.Obj hg ?_ eH;rw [eT,t];unfold xj;rw [zb hg]
  .by_cases h1:1<=j-(s.Ws.length:Int)/\j-(s.Ws.length:Int)<=(s.Ms.length:Int);rotate_left
   .have:zO s (j-(s.Ws.length:Int))=s:=by unfold zO;rw [yf]
    rw [this];exact .none rfl rfl
   generalize j-(s.Ws.length:Int)=m at h1 ⊢;obtain ⟨gh',G',_,x,hx,N,C,hb,hT⟩:=G.mutator hp hk (show 1<=m/\m<=p.Mutators by omega) hd;have e0: ¬(s.Done=true\/m<1\/(s.Ms.length:Int)<m):=by rw [hd];rintro (e | e | e)<;>first | cases e | omega
   have es:zO s m={(zt s m x).1 with Ms:=s.Ms.set (m-1).toNat (zt s m x).2}:=by unfold zO;rw [zc e0,hx]
   have eH:(zO s m).H=(zt s m x).1.H:=by rw [es]
   have eT:(zO s m).T=(zt s m x).1.T:=by rw [es]
   have hh:=zqM s m x;rcases hT with ⟨_,_,t⟩ | ⟨_,_,h3,hm,t⟩ | ⟨_,hC,h8,t⟩ | ⟨_,_,c30,hroom,t3,t4⟩
   .rcases zIF s m x with h | ⟨_,h⟩ | h
    .exact .none (eT.trans t) (eH.trans h)
    .rcases zFv (n:=p.H.Slots.toNat) (fun y hy=>by have:=(G.E.H.objs y hy).1;have:=G.E.H.slots;omega) (wX x (opM s.P m x).A) (opM s.P m x).S (wX x (opM s.P m x).R) with e | ⟨q1,q2,q3⟩
     .exact .none (eT.trans t) (eH.trans (h.trans e))
     .exact .write _ _ _ q1 q2 (eT.trans t) (eH.trans h) q3
    .rcases zDE s m x with ⟨c,_⟩ | ⟨_,hl,_⟩ | ⟨_,h5,_,_,_⟩
     .omega
     .have e30:(zt s m x).1.H=s.H:=by
       rcases zl5 s m x with ⟨q,_,_⟩ | ⟨q,_⟩
       .have e:zt s m x=UN s m x:=by
         unfold zt;rw [zi,zi,zi,zi,zi,zi,zi,zi,zi,zb h]
        rw [e] at hl ⊢;unfold UN at hl ⊢;split
        .split
         .rename_i g1 g2;rw [zb g1,zb g2] at hl;have:=ZN s.H;have hl:(yP s.H).Objs.length=s.H.Objs.length:=hl;omega
         .rfl
        .rfl
       .rw [q,ZN] at hl;omega
      exact .none (eT.trans t) (eH.trans e30)
     .exfalso;have nm: ¬zP s.T.Marks ((s.H.Objs.length:Int)+1)=true:=fun e=>by have:=G.mrk _ e;omega
      have nb': ¬zP s.T.Black ((s.H.Objs.length:Int)+1)=true:=fun e=>nm (G.B.blk _ e);rcases zl5 s m x with ⟨q,_,_⟩ | ⟨_,q,_⟩
      .rw [h5,ZN] at q;omega
      .rw [t,yQ,zev (by omega) nm nb'] at q;have q:=congrArg zn.Marks q;exact nm (by rw [q];exact (yO _ (by omega) _).2 (.inr rfl))
   .have hG:(1<=x.G.Obj/\x.G.Obj<=64)/\x.G.Out=0:=by
     rcases h3 with h | h
     .exact ⟨((G.M _ x hx).p3 h).1.ob,((G.M _ x hx).p3 h).2.2⟩
     .exact ⟨((G.M _ x hx).p37 h).1.ob,((G.M _ x hx).p37 h).2.2⟩
    have eh:(zt s m x).1.H=s.H:=by
     rcases hh with h | h | h
     .exact h
     .omega
     .omega
    refine .shade x.G.Obj hG.1 ((uJ hG.1).1 hm) (eT.trans t) (eH.trans eh) (.inr ⟨_,x,hx,.inr (.inr ⟨h3,hG.2,?_,rfl⟩)⟩);refine .inr (Decidable.byContradiction fun hne=>hm ?_);have e6:(zt s m x).1.T=(zG s x.G).1.T:=by
     rcases h3 with h | h
     .unfold zt;rw [zi,zi,zi,zb h];rfl
     .unfold zt;rw [zi,zi,zi,zi,zi,zi,zi,zi,zi,zi,zi,zi,zi,zi,zi,zi,zb h];rfl
    rw [e6,zDq s x.G hne] at t;exact (congrArg zn.Marks t).symm
   .have hg:yp s.T x.Obj=1:=(G.B.gr _).1 (zpB hx (zr2 (.inr (.inr h8))));have eh:(zt s m x).1.H=s.H:=by
     rcases hh with h | h | h
     .exact h
     .omega
     .omega
    refine .scan x.Obj hg ?_ (eH.trans eh);rw [eT,t];unfold xj;rw [zb hg]
   .have hroom':(s.H.Objs.length:Int)<p.Most:=by
     unfold ZB at hroom;simp only [zKF,decide_eq_true_eq] at hroom;rw [G.E.S.P] at hroom;exact hroom.1
    have nm: ¬zP s.T.Marks ((s.H.Objs.length:Int)+1)=true:=fun e=>by have:=G.mrk _ e;omega
    have nb': ¬zP s.T.Black ((s.H.Objs.length:Int)+1)=true:=fun e=>nm (G.B.blk _ e);refine .alloc (eH.trans t3) (by omega) ?_;rw [eT,t4,yQ,zev (by omega) nm nb']
def zfy (p:zd) (s:za):BitVec 64:=xK (s.H.Objs.length:Int)&&& ~~~xK (p.H.Objs.length:Int)
theorem zvt {p:zd}(hp:zI p) {s:za}(H:HOk p s.H) (o:Int):zP (zfy p s) o=true↔(p.H.Objs.length:Int)<o/\o<=(s.H.Objs.length:Int):=by
 have hN:=H.n;have hn:=hp.n;have hmo:=hp.most;unfold zfy;rw [vr,Yv (by omega)];constructor
 .rintro ⟨a,b⟩;have b:=(zcE _ (by omega)).1 b;rw [Yv (by omega)] at b;omega
 .rintro ⟨a,b⟩;refine ⟨by omega,(zcE _ (by omega)).2 ?_⟩;rw [Yv (by omega)];omega
theorem zn7 {p:zd}{s:za}(hP:s.P=p):zbA s=some (zfy p s,()):=by
 rw [zyg,zeZ _ (by omega),zKE,zry,zeZ _ (by omega),zKE,zKE,hP];rfl
theorem zz1:∀(n m:Fin 10),m<=n->cnt (xK (n.1:Int)&&& ~~~xK (m.1:Int))=(n.1:Int)-(m.1:Int):=by decide +kernel
theorem zFi {p:zd}(hp:zI p) {s:za}(H:HOk p s.H):cnt (zfy p s)=(s.H.Objs.length:Int)-(p.H.Objs.length:Int):=by
 have hN:=H.n;have hn:=hp.n;have hmo:=hp.most;exact zz1 ⟨s.H.Objs.length,by omega⟩ ⟨p.H.Objs.length,by omega⟩ (by show p.H.Objs.length<=s.H.Objs.length;omega)
theorem zFg {p:zd}(hp:zI p) {nb k:Nat}{s:za}{gh:Gh}(G:FG p nb k s gh):zfy p s&&& ~~~s.T.Black=0#64:=(ziv _ _).2 (fun o ho=>by
 have:=(zvt hp G.E.H o).1 ho;exact G.bk o this.1 this.2)
theorem zyD {g:BitVec 64}(h:∀o,zP g o=true->o<=9):UY (YL g)=g/\cnt g=((YL g).length:Int):=by
 obtain ⟨e1,e2⟩:=zDx (l:=YL g) (fun o ho=>⟨((xL _ _).1 (znB.1 ho).1).1,(znB.1 ho).2⟩) (ztY g);have e:UY (YL g)=g:=zhQ (fun o=>(e2 o).trans (znB.trans ⟨fun x=>x.1,fun x=>⟨x,h o x⟩⟩));rw [e] at e1;exact ⟨e,e1⟩
theorem zBH (g:BitVec 64):(YL g).length<=9:=by
 unfold YL;rw [zLA];have:=zLS (fun i=>g.getLsbD i) (List.range 9);rwa [List.length_range] at this
theorem zGT {g:BitVec 64}(h:∀o,zP g o=true->o<=9):zqA (YL g)=some (g,true,()):=by
 obtain ⟨e1,e2⟩:=zyD h;have hl:=zBH g;rw [zz0,zB8 (by omega),zKE,zns,zKE,e1];dsimp only;rw [yq,zb e2]
theorem zF6 {p:zd}(h:zI p) {k:Nat}{s:za}{gh:Gh}(G:FG p (yg p+1) k s gh):zbu s=some (true,()):=by
 rw [zxl,zBy h G,zKE,zGT (zFV h G),zKE];dsimp only;rw [zA,zge,zKE];dsimp only;rw [show s.T.Marks&&& ~~~s.T.Black=za9 s from rfl,zw rfl]
theorem zCQ {p:zd}(h:zI p) {k:Nat}{s:za}{gh:Gh}(I:EG p (yg p+1) k s gh):VR s=some (true,()):=by
 have hwk:=h.wk;have hmt:=h.mt;have wl:=I.G.E.wl;have ml:=I.G.E.ml;have hr:=zFO s;have hl:=zBH (za9 s);have he:=(zyD (zFV h I.G)).2;have hc:=zFn h I.G;have hw:=I.wk;rw [zuk,zBy h I.G,zKE,zGg (by omega) (by omega),zKE];dsimp only;rw [ya,zw (by omega)]
theorem zFb {p:zd}(h:zI p) {nb k:Nat}{s:za}{gh:Gh}{W:Int->Int->Prop}(G:FG p nb k s gh) (J:PI p s W):zbB s=some (true,()):=by
 have hwk:=h.wk;have hmt:=h.mt;have wl:=G.E.wl;have ml:=G.E.ml;have hN:=G.E.H.n;have hn:=h.n;have hmo:=h.most;rw [zxK,zge,zKE,zsz G.E.small (by omega) (by omega),zKE];dsimp only;rw [zvQ (by omega) G.E.small.obj,zKE,G.E.S.P,zyY h,zKE,WN,zKE];dsimp only;rw [show s.T.Marks&&& ~~~s.T.Black=za9 s from rfl,zHI h G J,zw rfl]
theorem zCu {p:zd}(h:zI p) {nb k:Nat}{s:za}{gh:Gh}(G:FG p nb k s gh) (B:BN p s):VT s=some (true,()):=by
 have hN:=G.E.H.n;have hn:=h.n;have hmo:=h.most;have u1:s.T.Marks&&& ~~~(zAa p|||zfy p s)=0#64:=(ziv _ _).2 (fun o ho=>(xq _ _ _).2 ((B.mkd o ho).imp (fun r=>(zCn h o).2 r) (fun r=>(zvt h G.E.H o).2 r)));have u2:s.T.Black&&& ~~~s.T.Marks=0#64:=(ziv _ _).2 (fun o ho=>G.B.blk o ho);have u3:s.T.Marks&&& ~~~xK (s.H.Objs.length:Int)=0#64:=(ziv _ _).2 (fun o ho=>(Yv (by omega) o).2 ⟨((xL _ _).1 ho).1,G.mrk o ho⟩);rw [zuJ,zn7 G.E.S.P,zKE,G.E.S.P,zyY h,zKE,WN,zKE];dsimp only;rw [u1,zw rfl,zA,WN,zKE];dsimp only;rw [zFg h G,zw rfl,zA,zwx,WN,zKE];dsimp only;rw [u2,zw rfl,zA,zeZ _ (by omega),zKE,WN,zKE];dsimp only;rw [u3,zw rfl];rfl
theorem zGQ {l:List Int}{s:za}(hl:l.length<1000000) (hm:0<=s.P.Limit/\s.P.Limit<1000) (h:∀b∈l,-s.P.Limit<=b):wP l s=some (false,()):=by
 rw [Wj,W8];obtain ⟨e,_⟩:=Yg (f:=yU) (fun j (_:Unit)=>(l,(l.length:Int),j,s,())) (fun _=>()) l hl (fun _ _=>()) (fun _ _=>True) (s:=()) trivial
  (fun i r x hx hi hr=>by
   have hb:=h x (zKK hx);refine ⟨trivial,?_⟩;show yU (l,(l.length:Int),(i:Int),s,())=_;rw [uB,zq,yf,xz hx,zKE,zw3,zKE,ya];dsimp only;rw [zL (by omega),zM,yV])
  (fun r hr=>by
   show yU (l,(l.length:Int),(l.length:Int),s,())=_;rw [uB,zq,zi])
 rw [e];rfl
theorem lo3 {a b c:Int}(ha:0<=a) (hb:0<=b) (hc:0<=c):decide ((bif decide (c<(bif decide (a<b) then a else b)) then c else (bif decide (a<b) then a else b))<0)=false:=by
 simp only [zq];refine zL ?_;split
 .omega
 .split<;>omega
theorem hi3 {a b c n:Int}(ha:a<=n) (hb:b<=n) (hc:c<=n):decide (n<(bif decide ((bif decide (a<b) then b else a)<c) then c else (bif decide (a<b) then b else a)))=false:=by
 simp only [zq];refine zL ?_;split
 .omega
 .split<;>omega
theorem zBR {p:zd}(hp:zI p) {c d:Int}(hc:0<=c/\c<=9) (hd:0<=d/\d<=9) {l:zx}(I:LdG p c d l):zgO l=some (true,()):=by
 obtain ⟨h1,h2,h3⟩:=I.low hp hc hd;have hm:=hp.mt;have hlen:=I.len;have hsc:=I.sc;have hsp:=I.sp;have hpo:=I.pool;have hsum:=I.sum;rw [zti,zq,zc (show ¬(16:Int)<(l.Bal.length:Int) by omega),lo3 (by omega) (by omega) (by omega),zM,hi3 (by omega) (by omega) (by omega),zM,ya];obtain ⟨e,_⟩:=Yg (f:=Wh) (fun j (r:Int)=>(r,l.Bal,(l.Bal.length:Int),j,l,())) (fun r=>(r,l,())) l.Bal (by omega) (fun r b=>r+b) (fun i r=> -1000-100*(i:Int)<=r/\r<=1000+100*(i:Int)) (s:=l.Spent+l.Pool) ⟨by omega,by omega⟩
  (fun i r x hx hi hr=>by
   have hb:=h3 x (zKK hx);refine ⟨⟨by omega,by omega⟩,?_⟩;show Wh (r,l.Bal,(l.Bal.length:Int),(i:Int),l,())=_;rw [zfg,zq,yf,xz hx,zKE,zq,zi,zq,zi,yV,ya])
  (fun r hr=>by
   show Wh (r,l.Bal,(l.Bal.length:Int),(l.Bal.length:Int),l,())=_;rw [zfg,zq,zi])
 have hf:∀(q:List Int) (a:Int),q.foldl (fun r b=>r+b) a=a+q.sum:=fun q=>by
  induction q with
  | nil=>intro a;simp
  | cons x q ih=>intro a;rw [zLv,ih,zLE];omega
 rw [hf] at e;rw [e,zKE];dsimp only;rw [zw (by omega)]
theorem zHo {p:zd}(h:zI p) {nb k:Nat}{s:za}{gh:Gh}(G:FG p nb k s gh) (I:PD p s):zcL s=some (true,()):=by
 have hN:=G.E.H.n;have hn:=h.n;have hmo:=h.most;have hm:=h.mt;have hl:=h.limit;have hP:=G.E.S.P;have hc:0<=cnt (YT p s)/\cnt (YT p s)<=9:=⟨zwC _,zwg (zEu h s)⟩
 have hdd:0<=(s.H.Objs.length:Int)-(p.H.Objs.length:Int)/\(s.H.Objs.length:Int)-(p.H.Objs.length:Int)<=9:=by omega
 have hlow:=I.L.low h hc hdd;have hlen:=I.L.len;have hbal:∀b∈s.L.Bal,-s.P.Limit<=b:=by rw [hP];exact I.L.bal
 have hb:=zGQ (l:=s.L.Bal) (s:=s) (by omega) (by rw [hP];omega) hbal;have e:s.T.Black&&&xK (p.H.Objs.length:Int)=YT p s:=rfl;have e1:zn3 s=some (xK (p.H.Objs.length:Int),()):=by rw [zry,hP,zeZ _ (by omega),zKE]
 have e2:=zBR h hc hdd I.L;have e3:w64 (p.Price*cnt (zfy p s))=s.L.Spent:=by rw [zFi h G.E.H,ya,I.L.sp]
 rw [zzK,zn7 hP,zKE,zns,zKE,e1,zKE,zns,zKE,e2,zKE];dsimp only;have key:∀(b1 b2:Bool) (r:Option (Bool×Unit)),r=some (false,())->b1=true->b2=true->(r.bind fun y6=>bif !y6.1 then (bif b1 then some (b2,()) else some (false,())) else some (false,()))=some (true,()):=by
  rintro _ _ _ rfl rfl rfl;rfl
 rw [zA];exact key _ _ _ hb (zw (by rw [hP];exact e3.symm)) (zw I.L.sc)
theorem zBt {s:za}(h1:zbu s=some (true,())) (h2:VR s=some (true,())) (h3:zbB s=some (true,())) (h4:VT s=some (true,())) (h5:zcL s=some (true,())) (h6:zbx s=some (true,())) (h7:Xq s.H=some (true,())):zdB s=some (true,()):=by
 have w:∀n:Nat,n<10->w64 ((n:Int)+1)=((n+1:Nat):Int):=fun n hn=>yV;have r6:uv (6,s,())=some (.brk (s,())):=by rw [Zz];rfl
 have r5:uv (5,s,())=some (.again (6,s,())):=by
  rw [Zz,h6];show some (yM.again (w64 (((5:Nat):Int)+1),s,()))=_;rw [w 5 (by decide)];rfl
 have r4:uv (4,s,())=some (.again (5,s,())):=by
  rw [Zz,h5];show some (yM.again (w64 (((4:Nat):Int)+1),s,()))=_;rw [w 4 (by decide)];rfl
 have r3:uv (3,s,())=some (.again (4,s,())):=by
  rw [Zz,h4];show some (yM.again (w64 (((3:Nat):Int)+1),s,()))=_;rw [w 3 (by decide)];rfl
 have r2:uv (2,s,())=some (.again (3,s,())):=by
  rw [Zz,h3];show some (yM.again (w64 (((2:Nat):Int)+1),s,()))=_;rw [w 2 (by decide)];rfl
 have r1:uv (1,s,())=some (.again (2,s,())):=by
  rw [Zz,h2];show some (yM.again (w64 (((1:Nat):Int)+1),s,()))=_;rw [w 1 (by decide)];rfl
 have r0:uv (0,s,())=some (.again (1,s,())):=by
  rw [Zz,h1];show some (yM.again (w64 (((0:Nat):Int)+1),s,()))=_;rw [w 0 (by decide)];rfl
 rw [zyi];have e:yY uv (0+1+1+1+1+1+1+1) (0,s,())=some (.brk (s,())):=by
  rw [yY,r0,zKE];dsimp only;rw [yY,r1,zKE];dsimp only;rw [yY,r2,zKE];dsimp only;rw [yY,r3,zKE];dsimp only;rw [yY,r4,zKE];dsimp only;rw [yY,r5,zKE];dsimp only;rw [yY,r6,zKE]
 rw [zqe e (by decide),zKE];dsimp only;rw [h7];rfl
theorem zIm {p:zd}(hp:zI p) {h:zr}(H:HOk p h):Xq h=some (true,()):=by
 have hN:=H.n;have hn:=hp.n;have hmo:=hp.most;have hs:=hp.slots;have hsl:=H.slots;exact zqX ⟨by omega,by omega⟩ (by omega) H.objs
theorem zHy:∀t:Fin 64,cnt (BitVec.ofNat 64 t.1)=((Vq (BitVec.ofNat 64 t.1)).length:Int):=by decide +kernel
theorem zF4 {s:BitVec 64}(h:s&&& ~~~63#64=0#64):cnt s=((Vq s).length:Int):=by
 have hs:s.toNat<64:=by
  have e:s=s&&&63#64:=by
   have:s=(s&&&63#64)|||(s&&& ~~~63#64):=by
    apply zL9;intro i hi;simp only [BitVec.getLsbD_or,zLT,zMm];cases s.getLsbD i<;>cases (63#64:BitVec 64).getLsbD i<;>simp [hi]
   rw [h,BitVec.or_zero] at this;exact this
  rw [e,zLK];have:s.toNat&&&(63#64:BitVec 64).toNat<=(63#64:BitVec 64).toNat:=Nat.and_le_right;have e63:(63#64:BitVec 64).toNat=63:=by decide
  omega
 have:=zHy ⟨s.toNat,hs⟩;have e:BitVec.ofNat 64 s.toNat=s:=by simp
 rw [e] at this;exact this
theorem zJy {p:zd}(h:zI p):EG p (yg p+1) 0 (xF p) (gh0 p):=by
 have hms:∀x∈(xF p).Ms,x.PC=0:=fun x hx=>by
  obtain ⟨r,_,e⟩:=zKT.1 (show x∈p.Regs.map vq from hx);rw [<-e];rfl
 have hws:∀x∈(xF p).Ws,∃i:Nat,x=uA p i:=fun x hx=>by
  obtain ⟨j,_,e⟩:=zKT.1 (show x∈(List.range p.Workers.toNat).map (uA p) from hx);exact ⟨j,e.symm⟩
 have z:∀ {l:List Int},(∀v∈l,v=0)->l.sum=0:=fun {l} h=>by
  induction l with
  | nil=>rfl
  | cons a l ih=>rw [zLE,h a (zK2 ..),ih (fun v hv=>h v (zKN _ hv))];rfl
 have ho:U7 (xF p)=0:=by
  unfold U7;rw [z (fun v hv=>by
   obtain ⟨x,hx,rfl⟩:=zKT.1 hv;obtain ⟨i,rfl⟩:=hws x hx;rfl),z (fun v hv=>by
   obtain ⟨x,hx,rfl⟩:=zKT.1 hv;have:=hms x hx;unfold owX;rw [zi,zi])]
  rfl
 have hold1:(xF p).Ms.flatMap (yn (xF p))=[]:=zcy (fun x hx=>by
  obtain ⟨r,_,e⟩:=zKT.1 (show x∈p.Regs.map vq from hx);rw [<-e];unfold yn;rw [Zo ⟨by show (0:Int)≠3;decide,by show (0:Int)≠33;decide,by show (0:Int)≠36;decide,by show (0:Int)≠37;decide,by show (0:Int)≠38;decide⟩];rfl)
 have hold2:(xF p).Ws.flatMap (z5 (xF p))=[]:=zcy (fun x hx=>by
  obtain ⟨i,rfl⟩:=hws x hx;have hb:uA p i=zay p ((i:Int)+1) (uA p i):=rfl;unfold z5;rw [hb,zkA];rfl)
 have hb:ue p (xF p) (gh0 p)=Vq (uN p):=by
  unfold ue;rw [hold1,hold2,zKI,zKI,zDi h]
 have hc:=zF4 (zh5 h);have hw:(xF p).Work=cnt (uN p):=rfl;have hl:=znF h;have hn:=h.n;exact ⟨zGo h,by rw [hb,ho,hw,hc];omega,by rw [hw,hc];omega⟩
namespace B20
def TI (p:zd) (k:Nat) (s:za):Prop:=∃k' gh W,k'<=k/\EG p (yg p+1) k' s gh/\PI p s W/\BN p s/\PD p s
theorem zAQ {p:zd}(h:zI p):TI p 0 (xF p):=⟨0,gh0 p,_,by omega,zJy h,zJv h,zJd h,zJh h⟩
theorem TI.next {p:zd}(hp:zI p) {k:Nat}{s:za}(hk:k<1000000) (I:TI p k s) {x:zk}(hx:V3 p x):TI p (k+1) (uY s x):=by
 obtain ⟨k',gh,W,h1,I,J,B,D⟩:=I;obtain ⟨gh',W',I',J',_⟩:=zHm hp (by omega) I J (zbc p x);rw [znl hp I.G.E hx];exact ⟨k'+1,gh',W',by omega,I',J',B.next hp (by omega) I.G (zbc p x),D.next hp (by omega) I.G (zbc p x)⟩
theorem TI.run {p:zd}(hp:zI p):∀(l:List zk) {k:Nat}{s:za},(∀x∈l,V3 p x)->k+l.length<1000000->TI p k s->TI p (k+l.length) (zbM s l).1
 | [],k,s,_,_,I=>I
 | x::l,k,s,hx,hk,I=>by
  rw [zKV] at hk ⊢;rw [zsT];split
  .obtain ⟨k',gh,W,h1,r⟩:=I;exact ⟨k',gh,W,by omega,r⟩
  .have:=TI.run hp l (fun y hy=>hx y (zKN _ hy)) (by omega) (I.next hp (by omega) (hx x (zK2 ..)));rwa [show k+1+l.length=k+(l.length+1) by omega] at this
theorem TI.right {p:zd}(hp:zI p) {k:Nat}{s:za}(I:TI p k s):zbu s=some (true,())/\VR s=some (true,())/\zbB s=some (true,())/\VT s=some (true,())/\zcL s=some (true,())/\(zbx s=some (true,())->zdB s=some (true,())):=by
 obtain ⟨k',gh,W,h1,I,J,B,D⟩:=I;have a1:=zF6 hp I.G;have a2:=zCQ hp I;have a3:=zFb hp I.G J;have a4:=zCu hp I.G B;have a5:=zHo hp I.G D;exact ⟨a1,a2,a3,a4,a5,fun a6=>zBt a1 a2 a3 a4 a5 a6 (zIm hp I.G.E.H)⟩
theorem zyV {s:za}(h:s.Done=false):zbx s=some (true,()):=by rw [zx0,h];rfl
def zbf (a b:za):Bool :=
 if b.L.Scanned<a.L.Scanned then false else if b.Epoch<a.Epoch then false else if (Zp a b).1=1 then zP (ztd a) (Zp a b).2 else if (Zp a b).1=2 then zP (za9 a) (Zp a b).2 else !(decide ((Zp a b).1= -1))
theorem znW {p:zd}(hp:zI p) {a b:za}(ha:EOk p (yg p+1) a) (hb:HOk p b.H):zbr a b=some (zbf a b,()):=by
 have hw:=hp.wk;have hm:=hp.mt;have wl:=ha.wl;have ml:=ha.ml;unfold zbf;rw [zxG,zgZ hp ha.H hb,zKE];dsimp only;rw [zq,zq,zq,zq];split
 .rfl
 split
 .rfl
 split
 .rw [zsz ha.small (by omega) (by omega),zKE,zl0,zln];rfl
 split
 .rw [zge,zKE,zl0,zln];rfl
 .rfl
theorem zFT {A B D:Type}{f:A->Option (yM A B D)}{x y:A}{b:B}(h1:f x=some (.again y)) (h:f y=some (.brk b)):yc f x=some (.brk b):=by
 rw [Xe];show yY f (18446744073709551614+1+1) x=_;rw [yY,h1,zKE];dsimp only;rw [yY,h];rfl
def zAb:List zE:=[⟨5,1,0,0⟩,⟨2,1,0,0⟩,⟨3,1,0,0⟩]
def pEx:zd:=⟨1,1,2,1,1,4,2,2,⟨1,[[2],[0],[0]]⟩,1#64,[[1,0]],[zAb],[]⟩
theorem zHj:zcu [zAb]=some (pEx,()):=by
 rw [zpr,zFT (by rw [zcd,zq,zb (by decide),yR (by decide),zKE,vX (by decide)];simp only [Int.toNat_zero,zLJ,zKE];rw [yR (by decide),zKE,ya (by decide) (by decide)]) (by rw [zcd,zq,zc (by decide)])];rfl
theorem zpD:zI pEx:=by
 constructor
 case objs=>intro o ho;simp [pEx] at ho ⊢;rcases ho with rfl | rfl | rfl<;>simp
 case roots=>exact ⟨1,by decide,by decide,by decide⟩
 case reg=>intro r hr;simp [pEx] at hr ⊢;subst hr;simp
 case prog =>
  intro k r ops hr ho;cases k with
  | succ k=>cases ho
  | zero =>
   injection hr with hr;injection ho with ho;subst hr;subst ho;refine ⟨by decide,fun o h=>?_⟩;simp [zAb] at h;rcases h with rfl | rfl | rfl
   .exact ⟨by decide,.inr (.inr ⟨.inr rfl,rfl,rfl⟩)⟩
   .exact ⟨by decide,.inl ⟨.inr rfl,by decide,by decide⟩⟩
   .exact ⟨by decide,.inr (.inr ⟨.inl rfl,rfl,rfl⟩)⟩
 all_goals first | decide | rfl
def mEx (n:Nat):List zk:=List.replicate n ⟨2,1⟩
def rEx (n:Nat):za:=(zbM (xF pEx) (mEx n)).1
theorem zH2 {n:Nat}(h:n<=8):TI pEx 8 (rEx n):=by
 have:=TI.run zpD (mEx n) (fun x hx=>by rw [zMu hx];exact .inr (.inr ⟨rfl,by decide,by decide⟩)) (by rw [mEx,zLl];omega) (zAQ zpD);rw [mEx,zLl] at this;obtain ⟨k,gh,W,h1,r⟩:=this;exact ⟨k,gh,W,by omega,r⟩
theorem zhj {n:Nat}(h:n<=8):EOk pEx (yg pEx+1) (rEx n):=by
 obtain ⟨k,gh,W,h1,I,_⟩:=zH2 h;exact I.G.E
theorem zw7 {n:Nat}(h:n<=8):WY (xF pEx) (mEx n)=some (rEx n,(zbM (xF pEx) (mEx n)).2,()):=zED zpD (zAC zpD) (by rw [mEx,zLl];omega)
theorem zzA:zab=some (true,()):=by
 have h:=zpD;have E0:=zAC h;have c5:cut (mEx 8) 0 5=some (mEx 5):=by kernel_rfl
 have c6:cut (mEx 8) 0 6=some (mEx 6):=by kernel_rfl
 have c7:cut (mEx 8) 0 7=some (mEx 7):=by kernel_rfl
 have c8:cut (mEx 8) 0 8=some (mEx 8):=by kernel_rfl
 have m1:Zp (rEx 5) (rEx 6)=(4,1):=by decide +kernel
 have m2:Zp (rEx 7) (rEx 8)=(3,4):=by decide +kernel
 have m3:(Zp (rEx 8) (rEx 7)).1= -1:=by decide +kernel
 have m4:(Zp (xF pEx) (xF pEx)).1=0:=by decide +kernel
 have f8:zfy pEx (rEx 8)=8#64:=by decide +kernel
 have f0:zfy pEx (xF pEx)=0#64:=by decide +kernel
 have l1:zbf (rEx 5) (rEx 6)=true:=by decide +kernel
 have l2:zbf (rEx 7) (rEx 8)=true:=by decide +kernel
 have l3:zbf (rEx 8) (rEx 7)=false:=by decide +kernel
 have d0:=zyV (s:=xF pEx) rfl;have d8:=zyV (s:=rEx 8) (by decide +kernel);obtain ⟨t1,t2,t3,t4,_,t6⟩:=(zAQ h).right h;obtain ⟨_,_,_,_,u5,u6⟩:=(zH2 (n:=8) (by decide)).right h;rw [zmo,show ([([zE.mk 5 1 0 0,zE.mk 2 1 0 0,zE.mk 3 1 0 0]:List zE)]:List (List zE))=[zAb] from rfl,zHj,zKE,zzn h,zKE];dsimp only;rw [show ([zk.mk 2 1,zk.mk 2 1,zk.mk 2 1,zk.mk 2 1,zk.mk 2 1,zk.mk 2 1,zk.mk 2 1,zk.mk 2 1]:List zk)=mEx 8 from rfl,c5,zKE,zw7 (n:=5) (by decide),zKE,c6,zKE,zw7 (n:=6) (by decide),zKE,c7,zKE,zw7 (n:=7) (by decide),zKE,c8,zKE,zw7 (n:=8) (by decide),zKE];dsimp only;rw [zgZ h (zhj (n:=5) (by decide)).H (zhj (n:=6) (by decide)).H,zKE,zgZ h (zhj (n:=7) (by decide)).H (zhj (n:=8) (by decide)).H,zKE,zgZ h (zhj (n:=8) (by decide)).H (zhj (n:=7) (by decide)).H,zKE,zgZ h E0.H E0.H,zKE,t6 d0,zKE];dsimp only;rw [zA,u6 d8,zKE];dsimp only;rw [zA,m1,m2,m3,m4];dsimp only;rw [zw rfl,zA,zw rfl,zA,zw rfl,zA,zA,zw rfl,zA,zw rfl,zA,zn7 (p:=pEx) (zhj (n:=8) (by decide)).S.P,zKE,f8];dsimp only;rw [zw rfl,zA,zn7 (p:=pEx) E0.S.P,zKE,f0];dsimp only;rw [zw rfl,zA,znW h (zhj (n:=5) (by decide)) (zhj (n:=6) (by decide)).H,zKE,l1];dsimp only;rw [zA,znW h (zhj (n:=7) (by decide)) (zhj (n:=8) (by decide)).H,zKE,l2];dsimp only;rw [zA,znW h (zhj (n:=8) (by decide)) (zhj (n:=7) (by decide)).H,zKE,l3];dsimp only;rw [Bool.not_false,zA,t1,zKE];dsimp only;rw [zA,t2,zKE];dsimp only;rw [zA,t3,zKE];dsimp only;rw [zA,t4,zKE];dsimp only;rw [zA,u5,zKE];dsimp only;rw [zA,d0];rfl
theorem zE4 {p:zd}(hp:zI p) {s:za}(E:EOk p (yg p+1) s) {x:zk}(hx:V3 p x):(x.Kind=0/\(uY s x).H=s.H/\(uY s x).T=s.T)\/(x.Kind=1/\(uY s x).H=s.H)\/x.Kind=2:=by
 have wl:=E.wl;have ml:=E.ml;rcases hx with h | h | h
 .refine .inl ⟨h.1,?_⟩;have e:=znl hp E (.inl h);have e0:zbc p x=0:=by unfold zbc;rw [zb h.1]
  rw [e,e0];unfold uW;rw [zb rfl];have hf:=zeW s;exact ⟨by conv=>rhs;rw [<-hf],by conv=>rhs;rw [<-hf]⟩
 .refine .inr (.inl ⟨h.1,?_⟩);have e:=znl hp E (.inr (.inl h));have e0:zbc p x=x.N:=by unfold zbc;rw [zi,zb h.1]
  rw [e,e0];unfold uW;rw [zi,yf,W3 E]
 .exact .inr (.inr h.1)
theorem zHT {p:zd}{nb k:Nat}{s:za}(E:EOk p nb s) (he:0<=s.Epoch/\s.Epoch<=k) (hk:k<1000000) (j:Int):s.Epoch<=(uW s j).Epoch/\(uW s j).Epoch<=s.Epoch+1:=by
 have same:∀ {e:Int},e=s.Epoch->s.Epoch<=e/\e<=s.Epoch+1:=fun h=>by omega
 unfold uW;split
 .unfold xY
  repeat' split
  all_goals first
   | exact same rfl
   | (show s.Epoch<=wc (s.Epoch+1)/\wc (s.Epoch+1)<=s.Epoch+1;rw [yQ];omega)
 split
 .rw [W3 E];exact same rfl
 .rw [ztJ];exact same rfl
theorem zEe {p:zd}(hp:zI p) {nb k:Nat}{s:za}{gh:Gh}(G:FG p nb k s gh) (D:PD p s) {s':za}(D':PD p s') (K:zEK s s'):s.L.Scanned<=s'.L.Scanned:=by
 have hN:=G.E.H.n;rw [D.L.sc,D'.L.sc];unfold YT;cases K with
 | none h1 h2=>rw [h1];exact zK6 _
 | shade o hr hm hT hH hpd=>rw [hT];exact zK6 _
 | scan o hg hT hH =>
  rw [zvb hp G hg (t:=s'.T) (by rw [hT];unfold xj;rw [zb hg])];show cnt (YT p s)<=_;omega
 | alloc hH hl hT =>
  have:s'.T.Black&&&xK (p.H.Objs.length:Int)=s.T.Black&&&xK (p.H.Objs.length:Int):=zhQ (fun q=>by
   rw [hT,vr,vr,yO _ (by omega)];constructor
   .rintro ⟨a | a,b⟩
    .exact ⟨a,b⟩
    .have:=(Yv (by have:=hp.n;omega) q).1 b;omega
   .rintro ⟨a,b⟩;exact ⟨.inl a,b⟩)
  rw [this];exact zK6 _
 | write o i v hs hv hT hH hp=>rw [hT];exact zK6 _
theorem triLegal_plain (l m:List (BitVec 8)):Z6 l m=some (true,()):=by
 obtain ⟨p,ep,h⟩:=zIW l;obtain ⟨ps,epk,hl,hok⟩:=zHN h m 300 (by decide);have hn:=h.n;have hmo:=h.most;have epk:V0 p m 300=some (ps,()):=epk;rw [zlC,zzA];simp only [zKE,zKY,zM,ep,zzn h,epk];obtain ⟨e,_⟩:=Yg (f:=Zd) (fun j s=>(true,(ps.length:Int),j,s,ps,())) (fun _=>(true,())) ps (by omega) uY (fun i s=>TI p i s/\0<=s.Epoch/\s.Epoch<=(i:Int)) (s:=xF p) ⟨zAQ h,zK6 _,zK6 _⟩
  (fun i s x hx hi ⟨I,he⟩=>by
   have hxo:=hok x (zKK hx);have I':=I.next h (by omega) hxo;have es:=znl h (show EOk p (yg p+1) s from by obtain ⟨_,_,_,_,I,_⟩:=I;exact I.G.E) hxo;have hk:=zE4 h (show EOk p (yg p+1) s from by obtain ⟨_,_,_,_,I,_⟩:=I;exact I.G.E) hxo;have hep:=zHT (show EOk p (yg p+1) s from by obtain ⟨_,_,_,_,I,_⟩:=I;exact I.G.E) he (by omega) (zbc p x);rw [<-es] at hep;refine ⟨⟨I',by omega,by omega⟩,?_⟩;obtain ⟨k,gh,W,h1,I,J,B,D⟩:=I;obtain ⟨k',gh',W',h1',I',J',B',D'⟩:=I';have E:=I.G.E;have E':=I'.G.E;have hN:=E.H.n;have hN':=E'.H.n;have K:=zEW h (by omega) I.G (zbc p x);rw [<-es] at K;have hsc:=zEe h I.G D D' K;have hm:=zIA h I.G K;have hsn:=yV (i:=i) (by omega);show Zd (true,(ps.length:Int),(i:Int),s,ps,())=_;rw [zaJ,zq,yf,vR,zKE,zLn,hx,zKE,zt3 h E,zKE];dsimp only;rw [zgZ h E.H E'.H,zKE,znW h E E'.H,zKE];dsimp only;generalize uY s x=s' at *;have hg:zbf s s'=if (Zp s s').1=1 then zP (ztd s) (Zp s s').2 else if (Zp s s').1=2 then zP (za9 s) (Zp s s').2 else !(decide ((Zp s s').1= -1)):=by
    unfold zbf;rw [zi,zi]
   rcases hm with ⟨e,hT,hH⟩ | ⟨o,e,ho,h1,h2,hH,hpd⟩ | ⟨o,e,ho,h1,h2,hH⟩ | ⟨e,hH,h2⟩ | ⟨o,e,ho,hT,hlen,hne⟩
   .have hg:zbf s s'=true:=by rw [hg,e];rfl
    rw [e,hg,hsn];rfl
   .have hg:zbf s s'=true:=by rw [hg,e];exact (zDl I.G (by omega) hpd).2
    have hd:decide (o=0)=false:=zL (by omega);rw [e,hg,hsn];dsimp only;rw [hd];rfl
   .have hg:zbf s s'=true:=by
     rw [hg,e];have t:=(w8 _ _).1 h1;have hr:=Wu h1;exact (vr _ _ _).2 ⟨t.1,(zcE _ hr).2 t.2⟩
    have hd:decide (o=0)=false:=zL (by omega);have hk0:decide (x.Kind=0)=false:=zL (fun q=>by
     rcases hk with ⟨_,_,hT⟩ | ⟨h',_⟩ | h'
     .rw [hT,h1] at h2;omega
     .omega
     .omega)
    rw [e,hg,hsn];dsimp only;rw [hd,hk0];rfl
   .have hg:zbf s s'=true:=by rw [hg,e];rfl
    have hl:s'.H.Objs.length=s.H.Objs.length+1:=by rw [hH,ZN]
    have hd:decide ((s.H.Objs.length:Int)+1=0)=false:=zL (by omega);have hd2:decide ((s.H.Objs.length:Int)+1=(s'.H.Objs.length:Int))=true:=zw (by omega);have hk0:decide (x.Kind=2)=true:=zw (by
     rcases hk with ⟨_,hH,_⟩ | ⟨_,hH⟩ | h'
     .rw [hH] at hl;omega
     .rw [hH] at hl;omega
     .exact h')
    rw [e,hg,hsn];dsimp only;rw [hd,hd2,hk0];rfl
   .have hg:zbf s s'=true:=by rw [hg,e];rfl
    have hd:decide (o=0)=false:=zL (by omega);have hk0:decide (x.Kind=2)=true:=zw (by
     rcases hk with ⟨_,hH,_⟩ | ⟨_,hH⟩ | h'
     .exact zm (congrArg zr.Objs hH) hne
     .exact zm (congrArg zr.Objs hH) hne
     .exact h')
    rw [e,hg,hsn];dsimp only;rw [hd,hk0];rfl)
  (fun s _=>by
   show Zd (true,(ps.length:Int),(ps.length:Int),s,ps,())=_;rw [zaJ,zq,zi])
 rw [e];rfl
end B20
end
end Go.Pe.G
