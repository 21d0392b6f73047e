/- Own work of this seat: PTriK, PEngN, PLaw20. -/
import Derived.Test.YtbjeofbgalopeaaGreatDoorTMPb
import Derived.Test.YtbjeofbgalopeaaGreatDoorTMPa
set_option linter.unusedVariables false
set_option linter.unusedSimpArgs false
set_option linter.unnecessarySimpa false
set_option linter.unusedSectionVars false
set_option linter.deprecated false
set_option maxRecDepth 20000
open BitVec renaming toNat_and → zLG, getLsbD_and → zLP, eq_of_getLsbD_eq → zL5, getLsbD_not → zMi
open Bool renaming and_eq_true → zKB, not_true → zKU, true_and → zLw
open Int renaming toNat_natCast → zLi
open List renaming getElem?_eq_getElem → zKC, getD_eq_getElem?_getD → zKD, append_nil → zKE, mem_of_getElem? → zKG, mem_cons_of_mem → zKJ, mem_map → zKP, length_cons → zKR, mem_cons_self → zKY, length_replicate → zLg, foldl_cons → zLr, length_map → zLx, sum_cons → zLA, getElem?_cons_zero → zLF, length_filter_le → zLO, eq_of_mem_replicate → zMq
open Option renaming bind_some → zKA
namespace Go.Pe.G
open Go.Pe
noncomputable section
theorem zDK (s:za) (g:zK) (h:g.PC≠1):(zH s g).1.T=s.T:=by
 unfold zH;split
 .rfl
 split
 .rfl
 split
 .rfl
 split
 .rfl
 split
 .rfl
 split
 .rfl
 split
 .rfl
 rfl
theorem zIO (s:za) (m:Int) (x:ze):(zu s m x).1.H=s.H\/((zu s m x).1.T=s.T/\(zu s m x).1.H=xL s.H (wV x (opM s.P m x).A) (opM s.P m x).S (wV x (opM s.P m x).R))\/x.PC=30:=by
 refine xY (motive:=fun r=>r.1.H=s.H\/(r.1.T=s.T/\r.1.H=xL s.H (wV x (opM s.P m x).A) (opM s.P m x).S (wV x (opM s.P m x).R))\/x.PC=30) s m x ?_ ?_ ?_ ?_ ?_ ?_ ?_ ?_ ?_ ?_ ?_ ?_ ?_ ?_ ?_ ?_ ?_ ?_ ?_ ?_
 all_goals first
  | exact fun _=>.inl rfl
  | exact fun _=>.inr (.inl ⟨rfl,rfl⟩)
  | exact fun c=>.inr (.inr c)
  | (intro c;unfold mu3;exact .inl (by dsimp only;rw [ub]))
  | (intro c;unfold za9;exact .inl (by dsimp only;rw [ub]))
  | exact .inl rfl
theorem zF5 {n:Nat}{h:zw}(hs:∀x∈h.Objs,x.length=n) (a i v:Int):xL h a i v=h\/(yy h a i=true/\zW h a i≠v/\xL h a i v={h with Objs:=h.Objs.set (a-1).toNat ((zR h a).set i.toNat v)}):=by
 by_cases hp:xL h a i v=h
 .exact .inl hp
 refine .inr ?_;have hd:yy h a i=true/\xL h a i v={h with Objs:=h.Objs.set (a-1).toNat ((zR h a).set i.toNat v)}:=by
  unfold xL at hp ⊢;split
  .rename_i c;exact ⟨c.1,rfl⟩
  .rename_i c;rw [zc c] at hp;exact zm rfl hp
 refine ⟨hd.1,fun e=>hp ?_,hd.2⟩;have hb:=hd.1;unfold yy at hb;simp only [zKB,decide_eq_true_eq] at hb;obtain ⟨⟨⟨b1,b2⟩,b3⟩,b4⟩:=hb;have hg:zW h a i=(zR h a).getD i.toNat 0:=by unfold zW;rw [zb hd.1]
 rw [hg,zKD,zKC (show i.toNat<(zR h a).length by omega)] at e;have e:(zR h a)[i.toNat]'(by omega)=v:=e;have e1:(zR h a).set i.toNat v=zR h a:=by rw [<-e];exact List.set_getElem_self _
 have e2:zR h a=h.Objs[(a-1).toNat]'(by omega):=by unfold zR;rw [zKD,zKC (show (a-1).toNat<h.Objs.length by omega)];rfl
 rw [hd.2,e1,e2,List.set_getElem_self]
theorem zEv {p:zd}(hp:zJ p) {nb k:Nat}{s:za}{gh:Gh}(hk:k<4294960000) (G:FG p nb k s gh) (j:Int):zH4 s (YB s j):=by
 have hN:=G.E.H.n;have hn:=hp.n;have hmo:=hp.most;cases hd:s.Done with
 | true=>rw [ziX hd];exact .none rfl rfl
 | false =>
  have hwl:=G.E.wl;have hml:=G.E.ml;unfold YB;split
  .have hf:=zjm s;exact .none (by conv=>rhs;rw [<-hf]) (by conv=>rhs;rw [<-hf])
  split
  .by_cases h1:1<=j;rotate_left
   .have:zS s j=s:=by unfold zS;rw [zb (.inr (.inl (by omega)))]
    rw [this];exact .none rfl rfl
   obtain ⟨gh',G',_,x,hx,N,C,hb,hT⟩:=G.worker hp hk (show 1<=j/\j<=p.Workers by omega) hd;have e0: ¬(s.Done=true\/j<1\/(s.Ws.length:Int)<j):=by rw [hd];rintro (e | e | e)<;>first | cases e | omega
   have es:zS s j={(zx s j x).1 with Ws:=s.Ws.set (j-1).toNat (zx s j x).2}:=by unfold zS;rw [zc e0,hx]
   have eH:(zS s j).H=s.H:=by rw [zep G.E j]
   have eT:(zS s j).T=(zx s j x).1.T:=by rw [es]
   rcases hT with ⟨_,_,t⟩ | ⟨_,_,h6,hm,t⟩ | ⟨_,hC,h8,t⟩
   .exact .none (eT.trans t) eH
   .have K:=(G.W _ x hx).p6 h6;have hob:=K.1.ob;refine .shade x.G.Obj hob ((uK hob).1 hm) (eT.trans t) eH (.inl ⟨_,x,hx,h6,K.2.2.2,?_,rfl⟩);refine .inr (Decidable.byContradiction fun hne=>hm ?_);have e6:(zx s j x).1=(zH s x.G).1:=by
     unfold zx;rw [zi,zi,zi,zi,zi,zb h6]
    rw [e6,zDK s x.G hne] at t;exact (congrArg zo.Marks t).symm
   .have hg:yp s.T x.Obj=1:=(G.B.gr _).1 (zpz hx (zyM (.inr (.inr h8))));refine .scan x.Obj hg ?_ eH;rw [eT,t];unfold xm;rw [zb hg]
  .by_cases h1:1<=j-(s.Ws.length:Int)/\j-(s.Ws.length:Int)<=(s.Ms.length:Int);rotate_left
   .have:zQ s (j-(s.Ws.length:Int))=s:=by unfold zQ;rw [yf]
    rw [this];exact .none rfl rfl
   generalize j-(s.Ws.length:Int)=m at h1 ⊢;obtain ⟨gh',G',_,x,hx,N,C,hb,hT⟩:=G.mutator hp hk (show 1<=m/\m<=p.Mutators by omega) hd;have e0: ¬(s.Done=true\/m<1\/(s.Ms.length:Int)<m):=by rw [hd];rintro (e | e | e)<;>first | cases e | omega
   have es:zQ s m={(zu s m x).1 with Ms:=s.Ms.set (m-1).toNat (zu s m x).2}:=by unfold zQ;rw [zc e0,hx]
   have eH:(zQ s m).H=(zu s m x).1.H:=by rw [es]
   have eT:(zQ s m).T=(zu s m x).1.T:=by rw [es]
   have hh:=zqx s m x;rcases hT with ⟨_,_,t⟩ | ⟨_,_,h3,hm,t⟩ | ⟨_,hC,h8,t⟩ | ⟨_,_,c30,hroom,t3,t4⟩
   .rcases zIO s m x with h | ⟨_,h⟩ | h
    .exact .none (eT.trans t) (eH.trans h)
    .rcases zF5 (n:=p.H.Slots.toNat) (fun y hy=>by have:=(G.E.H.objs y hy).1;have:=G.E.H.slots;omega) (wV x (opM s.P m x).A) (opM s.P m x).S (wV x (opM s.P m x).R) with e | ⟨q1,q2,q3⟩
     .exact .none (eT.trans t) (eH.trans (h.trans e))
     .exact .write _ _ _ q1 q2 (eT.trans t) (eH.trans h) q3
    .rcases zDI s m x with ⟨c,_⟩ | ⟨_,hl,_⟩ | ⟨_,h5,_,_,_⟩
     .omega
     .have e30:(zu s m x).1.H=s.H:=by
       rcases zmz s m x with ⟨q,_,_⟩ | ⟨q,_⟩
       .have e:zu s m x=UL s m x:=by
         unfold zu;rw [zi,zi,zi,zi,zi,zi,zi,zi,zi,zb h]
        rw [e] at hl ⊢;unfold UL at hl ⊢;split
        .split
         .rename_i g1 g2;rw [zb g1,zb g2] at hl;have:=Zb s.H;have hl:(yO s.H).Objs.length=s.H.Objs.length:=hl;omega
         .rfl
        .rfl
       .rw [q,Zb] at hl;omega
      exact .none (eT.trans t) (eH.trans e30)
     .exfalso;have nm: ¬zO s.T.Marks ((s.H.Objs.length:Int)+1)=true:=fun e=>by have:=G.mrk _ e;omega
      have nb': ¬zO s.T.Black ((s.H.Objs.length:Int)+1)=true:=fun e=>nm (G.B.blk _ e);rcases zmz s m x with ⟨q,_,_⟩ | ⟨_,q,_⟩
      .rw [h5,Zb] at q;omega
      .rw [t,yR,zed (by omega) nm nb'] at q;have q:=congrArg zo.Marks q;exact nm (by rw [q];exact (yQ _ (by omega) _).2 (.inr rfl))
   .have hG:(1<=x.G.Obj/\x.G.Obj<=64)/\x.G.Out=0:=by
     rcases h3 with h | h
     .exact ⟨((G.M _ x hx).p3 h).1.ob,((G.M _ x hx).p3 h).2.2⟩
     .exact ⟨((G.M _ x hx).p37 h).1.ob,((G.M _ x hx).p37 h).2.2⟩
    have eh:(zu s m x).1.H=s.H:=by
     rcases hh with h | h | h
     .exact h
     .omega
     .omega
    refine .shade x.G.Obj hG.1 ((uK hG.1).1 hm) (eT.trans t) (eH.trans eh) (.inr ⟨_,x,hx,.inr (.inr ⟨h3,hG.2,?_,rfl⟩)⟩);refine .inr (Decidable.byContradiction fun hne=>hm ?_);have e6:(zu s m x).1.T=(zH s x.G).1.T:=by
     rcases h3 with h | h
     .unfold zu;rw [zi,zi,zi,zb h];rfl
     .unfold zu;rw [zi,zi,zi,zi,zi,zi,zi,zi,zi,zi,zi,zi,zi,zi,zi,zi,zb h];rfl
    rw [e6,zDK s x.G hne] at t;exact (congrArg zo.Marks t).symm
   .have hg:yp s.T x.Obj=1:=(G.B.gr _).1 (zpK hx (zsx (.inr (.inr h8))));have eh:(zu s m x).1.H=s.H:=by
     rcases hh with h | h | h
     .exact h
     .omega
     .omega
    refine .scan x.Obj hg ?_ (eH.trans eh);rw [eT,t];unfold xm;rw [zb hg]
   .have hroom':(s.H.Objs.length:Int)<p.Most:=by
     unfold ZL at hroom;simp only [zKB,decide_eq_true_eq] at hroom;rw [G.E.S.P] at hroom;exact hroom.1
    have nm: ¬zO s.T.Marks ((s.H.Objs.length:Int)+1)=true:=fun e=>by have:=G.mrk _ e;omega
    have nb': ¬zO s.T.Black ((s.H.Objs.length:Int)+1)=true:=fun e=>nm (G.B.blk _ e);refine .alloc (eH.trans t3) (by omega) ?_;rw [eT,t4,yR,zed (by omega) nm nb']
def zf1 (p:zd) (s:za):BitVec 64:=xR (s.H.Objs.length:Int)&&& ~~~xR (p.H.Objs.length:Int)
theorem zwj {p:zd}(hp:zJ p) {s:za}(H:HOk p s.H) (o:Int):zO (zf1 p s) o=true↔(p.H.Objs.length:Int)<o/\o<=(s.H.Objs.length:Int):=by
 have hN:=H.n;have hn:=hp.n;have hmo:=hp.most;unfold zf1;rw [uF,Xh (by omega)];constructor
 .rintro ⟨a,b⟩;have b:=(zeh _ (by omega)).1 b;rw [Xh (by omega)] at b;omega
 .rintro ⟨a,b⟩;refine ⟨by omega,(zeh _ (by omega)).2 ?_⟩;rw [Xh (by omega)];omega
theorem znQ {p:zd}{s:za}(hP:s.P=p):zbr s=some (zf1 p s,()):=by
 rw [zx0,zeG _ (by omega),zKA,zsC,zeG _ (by omega),zKA,zKA,hP];rfl
theorem zzt:∀(n m:Fin 10),m<=n->cnt (xR (n.1:Int)&&& ~~~xR (m.1:Int))=(n.1:Int)-(m.1:Int):=by decide +kernel
theorem zFp {p:zd}(hp:zJ p) {s:za}(H:HOk p s.H):cnt (zf1 p s)=(s.H.Objs.length:Int)-(p.H.Objs.length:Int):=by
 have hN:=H.n;have hn:=hp.n;have hmo:=hp.most;exact zzt ⟨s.H.Objs.length,by omega⟩ ⟨p.H.Objs.length,by omega⟩ (by show p.H.Objs.length<=s.H.Objs.length;omega)
theorem zFJ {p:zd}(hp:zJ p) {nb k:Nat}{s:za}{gh:Gh}(G:FG p nb k s gh):zf1 p s&&& ~~~s.T.Black=0#64:=(zjf _ _).2 (fun o ho=>by
 have:=(zwj hp G.E.H o).1 ho;exact G.bk o this.1 this.2)
theorem zyA {g:BitVec 64}(h:∀o,zO g o=true->o<=9):U0 (Yx g)=g/\cnt g=((Yx g).length:Int):=by
 obtain ⟨e1,e2⟩:=zDA (l:=Yx g) (fun o ho=>⟨((xK _ _).1 (znV.1 ho).1).1,(znV.1 ho).2⟩) (ztS g);have e:U0 (Yx g)=g:=zln (fun o=>(e2 o).trans (znV.trans ⟨fun x=>x.1,fun x=>⟨x,h o x⟩⟩));rw [e] at e1;exact ⟨e,e1⟩
theorem zBB (g:BitVec 64):(Yx g).length<=9:=by
 unfold Yx;rw [zLx];have:=zLO (fun i=>g.getLsbD i) (List.range 9);rwa [List.length_range] at this
theorem zHv {g:BitVec 64}(h:∀o,zO g o=true->o<=9):zqz (Yx g)=some (g,true,()):=by
 obtain ⟨e1,e2⟩:=zyA h;have hl:=zBB g;rw [zzw,zBZ (by omega),zKA,zn5,zKA,e1];dsimp only;rw [yq,zb e2]
theorem zE8 {p:zd}(h:zJ p) {k:Nat}{s:za}{gh:Gh}(G:FG p (yi p+1) k s gh):zbz s=some (true,()):=by
 rw [zx2,zAv h G,zKA,zHv (zGm h G),zKA];dsimp only;rw [zt,zfZ,zKA];dsimp only;rw [show s.T.Marks&&& ~~~s.T.Black=zbQ s from rfl,zn rfl]
theorem zCY {p:zd}(h:zJ p) {k:Nat}{s:za}{gh:Gh}(I:EG p (yi p+1) k s gh):VR s=some (true,()):=by
 have hwk:=h.wk;have hmt:=h.mt;have wl:=I.G.E.wl;have ml:=I.G.E.ml;have hr:=zGq s;have hl:=zBB (zbQ s);have he:=(zyA (zGm h I.G)).2;have hc:=zFu h I.G;have hw:=I.wk;rw [zuV,zAv h I.G,zKA,zFZ (by omega) (by omega),zKA];dsimp only;rw [ya,zn (by omega)]
theorem zFQ {p:zd}(h:zJ p) {nb k:Nat}{s:za}{gh:Gh}{W:Int->Int->Prop}(G:FG p nb k s gh) (J:PI p s W):zbv s=some (true,()):=by
 have hwk:=h.wk;have hmt:=h.mt;have wl:=G.E.wl;have ml:=G.E.ml;have hN:=G.E.H.n;have hn:=h.n;have hmo:=h.most;rw [zxR,zfZ,zKA,zsT G.E.small (by omega) (by omega),zKA];dsimp only;rw [zv1 (by omega) G.E.small.obj,zKA,G.E.S.P,zyX h,zKA,WL,zKA];dsimp only;rw [show s.T.Marks&&& ~~~s.T.Black=zbQ s from rfl,zGK h G J,zn rfl]
theorem zCC {p:zd}(h:zJ p) {nb k:Nat}{s:za}{gh:Gh}(G:FG p nb k s gh) (B:BN p s):VU s=some (true,()):=by
 have hN:=G.E.H.n;have hn:=h.n;have hmo:=h.most;have u1:s.T.Marks&&& ~~~(zz8 p|||zf1 p s)=0#64:=(zjf _ _).2 (fun o ho=>(xq _ _ _).2 ((B.mkd o ho).imp (fun r=>(zBn h o).2 r) (fun r=>(zwj h G.E.H o).2 r)));have u2:s.T.Black&&& ~~~s.T.Marks=0#64:=(zjf _ _).2 (fun o ho=>G.B.blk o ho);have u3:s.T.Marks&&& ~~~xR (s.H.Objs.length:Int)=0#64:=(zjf _ _).2 (fun o ho=>(Xh (by omega) o).2 ⟨((xK _ _).1 ho).1,G.mrk o ho⟩);rw [zuN,znQ G.E.S.P,zKA,G.E.S.P,zyX h,zKA,WL,zKA];dsimp only;rw [u1,zn rfl,zt,WL,zKA];dsimp only;rw [zFJ h G,zn rfl,zt,zw4,WL,zKA];dsimp only;rw [u2,zn rfl,zt,zeG _ (by omega),zKA,WL,zKA];dsimp only;rw [u3,zn rfl];rfl
theorem zHi {l:List Int}{s:za}(hl:l.length<1000000) (hm:0<=s.P.Limit/\s.P.Limit<1000) (h:∀b∈l,-s.P.Limit<=b):wM l s=some (false,()):=by
 rw [X7,Vh];obtain ⟨e,_⟩:=Z9 (f:=yV) (fun j (_:Unit)=>(l,(l.length:Int),j,s,())) (fun _=>()) l hl (fun _ _=>()) (fun _ _=>True) (s:=()) trivial
  (fun i r x hx hi hr=>by
   have hb:=h x (zKG hx);refine ⟨trivial,?_⟩;show yV (l,(l.length:Int),(i:Int),s,())=_;rw [uA,zr,yf,xz hx,zKA,zvS,zKA,ya];dsimp only;rw [zG (by omega),zM,yS])
  (fun r hr=>by
   show yV (l,(l.length:Int),(l.length:Int),s,())=_;rw [uA,zr,zi])
 rw [e];rfl
theorem lo3 {a b c:Int}(ha:0<=a) (hb:0<=b) (hc:0<=c):decide ((bif decide (c<(bif decide (a<b) then a else b)) then c else (bif decide (a<b) then a else b))<0)=false:=by
 simp only [zr];refine zG ?_;split
 .omega
 .split<;>omega
theorem hi3 {a b c n:Int}(ha:a<=n) (hb:b<=n) (hc:c<=n):decide (n<(bif decide ((bif decide (a<b) then b else a)<c) then c else (bif decide (a<b) then b else a)))=false:=by
 simp only [zr];refine zG ?_;split
 .omega
 .split<;>omega
theorem zBa {p:zd}(hp:zJ p) {c d:Int}(hc:0<=c/\c<=9) (hd:0<=d/\d<=9) {l:zy}(I:LdG p c d l):zhr l=some (true,()):=by
 obtain ⟨h1,h2,h3⟩:=I.low hp hc hd;have hm:=hp.mt;have hlen:=I.len;have hsc:=I.sc;have hsp:=I.sp;have hpo:=I.pool;have hsum:=I.sum;rw [zty,zr,zc (show ¬(16:Int)<(l.Bal.length:Int) by omega),lo3 (by omega) (by omega) (by omega),zM,hi3 (by omega) (by omega) (by omega),zM,ya];obtain ⟨e,_⟩:=Z9 (f:=Wj) (fun j (r:Int)=>(r,l.Bal,(l.Bal.length:Int),j,l,())) (fun r=>(r,l,())) l.Bal (by omega) (fun r b=>r+b) (fun i r=> -1000-100*(i:Int)<=r/\r<=1000+100*(i:Int)) (s:=l.Spent+l.Pool) ⟨by omega,by omega⟩
  (fun i r x hx hi hr=>by
   have hb:=h3 x (zKG hx);refine ⟨⟨by omega,by omega⟩,?_⟩;show Wj (r,l.Bal,(l.Bal.length:Int),(i:Int),l,())=_;rw [zfs,zr,yf,xz hx,zKA,zr,zi,zr,zi,yS,ya])
  (fun r hr=>by
   show Wj (r,l.Bal,(l.Bal.length:Int),(l.Bal.length:Int),l,())=_;rw [zfs,zr,zi])
 have hf:∀(q:List Int) (a:Int),q.foldl (fun r b=>r+b) a=a+q.sum:=fun q=>by
  induction q with
  | nil=>intro a;simp
  | cons x q ih=>intro a;rw [zLr,ih,zLA];omega
 rw [hf] at e;rw [e,zKA];dsimp only;rw [zn (by omega)]
theorem zHe {p:zd}(h:zJ p) {nb k:Nat}{s:za}{gh:Gh}(G:FG p nb k s gh) (I:PD p s):zcX s=some (true,()):=by
 have hN:=G.E.H.n;have hn:=h.n;have hmo:=h.most;have hm:=h.mt;have hl:=h.limit;have hP:=G.E.S.P;have hc:0<=cnt (Xz p s)/\cnt (Xz p s)<=9:=⟨zwd _,zwa (zDZ h s)⟩
 have hdd:0<=(s.H.Objs.length:Int)-(p.H.Objs.length:Int)/\(s.H.Objs.length:Int)-(p.H.Objs.length:Int)<=9:=by omega
 have hlow:=I.L.low h hc hdd;have hlen:=I.L.len;have hbal:∀b∈s.L.Bal,-s.P.Limit<=b:=by rw [hP];exact I.L.bal
 have hb:=zHi (l:=s.L.Bal) (s:=s) (by omega) (by rw [hP];omega) hbal;have e:s.T.Black&&&xR (p.H.Objs.length:Int)=Xz p s:=rfl;have e1:znI s=some (xR (p.H.Objs.length:Int),()):=by rw [zsC,hP,zeG _ (by omega),zKA]
 have e2:=zBa h hc hdd I.L;have e3:w64 (p.Price*cnt (zf1 p s))=s.L.Spent:=by rw [zFp h G.E.H,ya,I.L.sp]
 rw [zzQ,znQ hP,zKA,zn5,zKA,e1,zKA,zn5,zKA,e2,zKA];dsimp only;have key:∀(b1 b2:Bool) (r:Option (Bool×Unit)),r=some (false,())->b1=true->b2=true->(r.bind fun y6=>bif !y6.1 then (bif b1 then some (b2,()) else some (false,())) else some (false,()))=some (true,()):=by
  rintro _ _ _ rfl rfl rfl;rfl
 rw [zt];exact key _ _ _ hb (zn (by rw [hP];exact e3.symm)) (zn I.L.sc)
theorem zBM {s:za}(h1:zbz s=some (true,())) (h2:VR s=some (true,())) (h3:zbv s=some (true,())) (h4:VU s=some (true,())) (h5:zcX s=some (true,())) (h6:zbx s=some (true,())) (h7:Xm s.H=some (true,())):zdJ s=some (true,()):=by
 have w:∀n:Nat,n<10->w64 ((n:Int)+1)=((n+1:Nat):Int):=fun n hn=>yS;have r6:uz (6,s,())=some (.brk (s,())):=by rw [Zy];rfl
 have r5:uz (5,s,())=some (.again (6,s,())):=by
  rw [Zy,h6];show some (yN.again (w64 (((5:Nat):Int)+1),s,()))=_;rw [w 5 (by decide)];rfl
 have r4:uz (4,s,())=some (.again (5,s,())):=by
  rw [Zy,h5];show some (yN.again (w64 (((4:Nat):Int)+1),s,()))=_;rw [w 4 (by decide)];rfl
 have r3:uz (3,s,())=some (.again (4,s,())):=by
  rw [Zy,h4];show some (yN.again (w64 (((3:Nat):Int)+1),s,()))=_;rw [w 3 (by decide)];rfl
 have r2:uz (2,s,())=some (.again (3,s,())):=by
  rw [Zy,h3];show some (yN.again (w64 (((2:Nat):Int)+1),s,()))=_;rw [w 2 (by decide)];rfl
 have r1:uz (1,s,())=some (.again (2,s,())):=by
  rw [Zy,h2];show some (yN.again (w64 (((1:Nat):Int)+1),s,()))=_;rw [w 1 (by decide)];rfl
 have r0:uz (0,s,())=some (.again (1,s,())):=by
  rw [Zy,h1];show some (yN.again (w64 (((0:Nat):Int)+1),s,()))=_;rw [w 0 (by decide)];rfl
 rw [zxs];have e:yY uz (0+1+1+1+1+1+1+1) (0,s,())=some (.brk (s,())):=by
  rw [yY,r0,zKA];dsimp only;rw [yY,r1,zKA];dsimp only;rw [yY,r2,zKA];dsimp only;rw [yY,r3,zKA];dsimp only;rw [yY,r4,zKA];dsimp only;rw [yY,r5,zKA];dsimp only;rw [yY,r6,zKA]
 rw [zqd e (by decide),zKA];dsimp only;rw [h7];rfl
theorem zIg {p:zd}(hp:zJ p) {h:zw}(H:HOk p h):Xm h=some (true,()):=by
 have hN:=H.n;have hn:=hp.n;have hmo:=hp.most;have hs:=hp.slots;have hsl:=H.slots;exact zq8 ⟨by omega,by omega⟩ (by omega) H.objs
theorem zHg:∀t:Fin 64,cnt (BitVec.ofNat 64 t.1)=((Vq (BitVec.ofNat 64 t.1)).length:Int):=by decide +kernel
theorem zFf {s:BitVec 64}(h:s&&& ~~~63#64=0#64):cnt s=((Vq s).length:Int):=by
 have hs:s.toNat<64:=by
  have e:s=s&&&63#64:=by
   have:s=(s&&&63#64)|||(s&&& ~~~63#64):=by
    apply zL5;intro i hi;simp only [BitVec.getLsbD_or,zLP,zMi];cases s.getLsbD i<;>cases (63#64:BitVec 64).getLsbD i<;>simp [hi]
   rw [h,BitVec.or_zero] at this;exact this
  rw [e,zLG];have:s.toNat&&&(63#64:BitVec 64).toNat<=(63#64:BitVec 64).toNat:=Nat.and_le_right;have e63:(63#64:BitVec 64).toNat=63:=by decide
  omega
 have:=zHg ⟨s.toNat,hs⟩;have e:BitVec.ofNat 64 s.toNat=s:=by simp
 rw [e] at this;exact this
theorem zF9 {p:zd}(h:zJ p):EG p (yi p+1) 0 (xD p) (gh0 p):=by
 have hms:∀x∈(xD p).Ms,x.PC=0:=fun x hx=>by
  obtain ⟨r,_,e⟩:=zKP.1 (show x∈p.Regs.map vn from hx);rw [<-e];rfl
 have hws:∀x∈(xD p).Ws,∃i:Nat,x=ux p i:=fun x hx=>by
  obtain ⟨j,_,e⟩:=zKP.1 (show x∈(List.range p.Workers.toNat).map (ux p) from hx);exact ⟨j,e.symm⟩
 have z:∀ {l:List Int},(∀v∈l,v=0)->l.sum=0:=fun {l} h=>by
  induction l with
  | nil=>rfl
  | cons a l ih=>rw [zLA,h a (zKY ..),ih (fun v hv=>h v (zKJ _ hv))];rfl
 have ho:zaq (xD p)=0:=by
  unfold zaq;rw [z (fun v hv=>by
   obtain ⟨x,hx,rfl⟩:=zKP.1 hv;obtain ⟨i,rfl⟩:=hws x hx;rfl),z (fun v hv=>by
   obtain ⟨x,hx,rfl⟩:=zKP.1 hv;have:=hms x hx;unfold owX;rw [zi,zi])]
  rfl
 have hold1:(xD p).Ms.flatMap (yo (xD p))=[]:=zch (fun x hx=>by
  obtain ⟨r,_,e⟩:=zKP.1 (show x∈p.Regs.map vn from hx);rw [<-e];unfold yo;rw [Zn ⟨by show (0:Int)≠3;decide,by show (0:Int)≠33;decide,by show (0:Int)≠36;decide,by show (0:Int)≠37;decide,by show (0:Int)≠38;decide⟩];rfl)
 have hold2:(xD p).Ws.flatMap (z5 (xD p))=[]:=zch (fun x hx=>by
  obtain ⟨i,rfl⟩:=hws x hx;have hb:ux p i=zah p ((i:Int)+1) (ux p i):=rfl;unfold z5;rw [hb,zkZ];rfl)
 have hb:ua p (xD p) (gh0 p)=Vq (uV p):=by
  unfold ua;rw [hold1,hold2,zKE,zKE,zDF h]
 have hc:=zFf (zil h);have hw:(xD p).Work=cnt (uV p):=rfl;have hl:=znt h;have hn:=h.n;exact ⟨zGn h,by rw [hb,ho,hw,hc];omega,by rw [hw,hc];omega⟩
namespace B20
def TI (p:zd) (k:Nat) (s:za):Prop:=∃k' gh W,k'<=k/\EG p (yi p+1) k' s gh/\PI p s W/\BN p s/\PD p s
theorem zGz {p:zd}(h:zJ p):TI p 0 (xD p):=⟨0,gh0 p,_,by omega,zF9 h,zJE h,zJp h,zJD h⟩
theorem TI.next {p:zd}(hp:zJ p) {k:Nat}{s:za}(hk:k<1000000) (I:TI p k s) {x:zk}(hx:zaE p x):TI p (k+1) (Zq s x):=by
 obtain ⟨k',gh,W,h1,I,J,B,D⟩:=I;obtain ⟨gh',W',I',J',_⟩:=zHc hp (by omega) I J (zfP p x);rw [zzf hp I.G.E hx];exact ⟨k'+1,gh',W',by omega,I',J',B.next hp (by omega) I.G (zfP p x),D.next hp (by omega) I.G (zfP p x)⟩
theorem TI.run {p:zd}(hp:zJ p):∀(l:List zk) {k:Nat}{s:za},(∀x∈l,zaE p x)->k+l.length<1000000->TI p k s->TI p (k+l.length) (zbE s l).1
 | [],k,s,_,_,I=>I
 | x::l,k,s,hx,hk,I=>by
  rw [zKR] at hk ⊢;rw [zsE];split
  .obtain ⟨k',gh,W,h1,r⟩:=I;exact ⟨k',gh,W,by omega,r⟩
  .have:=TI.run hp l (fun y hy=>hx y (zKJ _ hy)) (by omega) (I.next hp (by omega) (hx x (zKY ..)));rwa [show k+1+l.length=k+(l.length+1) by omega] at this
theorem TI.right {p:zd}(hp:zJ p) {k:Nat}{s:za}(I:TI p k s):zbz s=some (true,())/\VR s=some (true,())/\zbv s=some (true,())/\VU s=some (true,())/\zcX s=some (true,())/\(zbx s=some (true,())->zdJ s=some (true,())):=by
 obtain ⟨k',gh,W,h1,I,J,B,D⟩:=I;have a1:=zE8 hp I.G;have a2:=zCY hp I;have a3:=zFQ hp I.G J;have a4:=zCC hp I.G B;have a5:=zHe hp I.G D;exact ⟨a1,a2,a3,a4,a5,fun a6=>zBM a1 a2 a3 a4 a5 a6 (zIg hp I.G.E.H)⟩
theorem zyH {s:za}(h:s.Done=false):zbx s=some (true,()):=by rw [zxo,h];rfl
def zsl (a b:za):Bool :=
 if b.L.Scanned<a.L.Scanned then false else if b.Epoch<a.Epoch then false else if (YU a b).1=1 then zO (zvT a) (YU a b).2 else if (YU a b).1=2 then zO (zbQ a) (YU a b).2 else !(decide ((YU a b).1= -1))
theorem zsB {p:zd}(hp:zJ p) {a b:za}(ha:EOk p (yi p+1) a) (hb:HOk p b.H):zdN a b=some (zsl a b,()):=by
 have hw:=hp.wk;have hm:=hp.mt;have wl:=ha.wl;have ml:=ha.ml;unfold zsl;rw [zxN,zht hp ha.H hb,zKA];dsimp only;rw [zr,zr,zr,zr];split
 .rfl
 split
 .rfl
 split
 .rw [zsT ha.small (by omega) (by omega),zKA,zl3,zlp];rfl
 split
 .rw [zfZ,zKA,zl3,zlp];rfl
 .rfl
theorem zFq {A B D:Type}{f:A->Option (yN A B D)}{x y:A}{b:B}(h1:f x=some (.again y)) (h:f y=some (.brk b)):yc f x=some (.brk b):=by
 rw [Y3];show yY f (18446744073709551614+1+1) x=_;rw [yY,h1,zKA];dsimp only;rw [yY,h];rfl
def zz9:List zE:=[⟨5,1,0,0⟩,⟨2,1,0,0⟩,⟨3,1,0,0⟩]
def pEx:zd:=⟨1,1,2,1,1,4,2,2,⟨1,[[2],[0],[0]]⟩,1#64,[[1,0]],[zz9],[]⟩
theorem zHQ:zcg [zz9]=some (pEx,()):=by
 rw [zo9,zFq (by rw [zcl,zr,zb (by decide),yP (by decide),zKA,vX (by decide)];simp only [Int.toNat_zero,zLF,zKA];rw [yP (by decide),zKA,ya (by decide) (by decide)]) (by rw [zcl,zr,zc (by decide)])];rfl
theorem zpm:zJ pEx:=by
 constructor
 case objs=>intro o ho;simp [pEx] at ho ⊢;rcases ho with rfl | rfl | rfl<;>simp
 case roots=>exact ⟨1,by decide,by decide,by decide⟩
 case reg=>intro r hr;simp [pEx] at hr ⊢;subst hr;simp
 case prog =>
  intro k r ops hr ho;cases k with
  | succ k=>cases ho
  | zero =>
   injection hr with hr;injection ho with ho;subst hr;subst ho;refine ⟨by decide,fun o h=>?_⟩;simp [zz9] at h;rcases h with rfl | rfl | rfl
   .exact ⟨by decide,.inr (.inr ⟨.inr rfl,rfl,rfl⟩)⟩
   .exact ⟨by decide,.inl ⟨.inr rfl,by decide,by decide⟩⟩
   .exact ⟨by decide,.inr (.inr ⟨.inl rfl,rfl,rfl⟩)⟩
 all_goals first | decide | rfl
def mEx (n:Nat):List zk:=List.replicate n ⟨2,1⟩
def rEx (n:Nat):za:=(zbE (xD pEx) (mEx n)).1
theorem zH0 {n:Nat}(h:n<=8):TI pEx 8 (rEx n):=by
 have:=TI.run zpm (mEx n) (fun x hx=>by rw [zMq hx];exact .inr (.inr ⟨rfl,by decide,by decide⟩)) (by rw [mEx,zLg];omega) (zGz zpm);rw [mEx,zLg] at this;obtain ⟨k,gh,W,h1,r⟩:=this;exact ⟨k,gh,W,by omega,r⟩
theorem zgZ {n:Nat}(h:n<=8):EOk pEx (yi pEx+1) (rEx n):=by
 obtain ⟨k,gh,W,h1,I,_⟩:=zH0 h;exact I.G.E
theorem zvI {n:Nat}(h:n<=8):Vk (xD pEx) (mEx n)=some (rEx n,(zbE (xD pEx) (mEx n)).2,()):=zEM zpm (zB3 zpm) (by rw [mEx,zLg];omega)
theorem zzZ:zaf=some (true,()):=by
 have h:=zpm;have E0:=zB3 h;have c5:cut (mEx 8) 0 5=some (mEx 5):=by kernel_rfl
 have c6:cut (mEx 8) 0 6=some (mEx 6):=by kernel_rfl
 have c7:cut (mEx 8) 0 7=some (mEx 7):=by kernel_rfl
 have c8:cut (mEx 8) 0 8=some (mEx 8):=by kernel_rfl
 have m1:YU (rEx 5) (rEx 6)=(4,1):=by decide +kernel
 have m2:YU (rEx 7) (rEx 8)=(3,4):=by decide +kernel
 have m3:(YU (rEx 8) (rEx 7)).1= -1:=by decide +kernel
 have m4:(YU (xD pEx) (xD pEx)).1=0:=by decide +kernel
 have f8:zf1 pEx (rEx 8)=8#64:=by decide +kernel
 have f0:zf1 pEx (xD pEx)=0#64:=by decide +kernel
 have l1:zsl (rEx 5) (rEx 6)=true:=by decide +kernel
 have l2:zsl (rEx 7) (rEx 8)=true:=by decide +kernel
 have l3:zsl (rEx 8) (rEx 7)=false:=by decide +kernel
 have d0:=zyH (s:=xD pEx) rfl;have d8:=zyH (s:=rEx 8) (by decide +kernel);obtain ⟨t1,t2,t3,t4,_,t6⟩:=(zGz h).right h;obtain ⟨_,_,_,_,u5,u6⟩:=(zH0 (n:=8) (by decide)).right h;rw [zlJ,show ([([zE.mk 5 1 0 0,zE.mk 2 1 0 0,zE.mk 3 1 0 0]:List zE)]:List (List zE))=[zz9] from rfl,zHQ,zKA,zyF h,zKA];dsimp only;rw [show ([zk.mk 2 1,zk.mk 2 1,zk.mk 2 1,zk.mk 2 1,zk.mk 2 1,zk.mk 2 1,zk.mk 2 1,zk.mk 2 1]:List zk)=mEx 8 from rfl,c5,zKA,zvI (n:=5) (by decide),zKA,c6,zKA,zvI (n:=6) (by decide),zKA,c7,zKA,zvI (n:=7) (by decide),zKA,c8,zKA,zvI (n:=8) (by decide),zKA];dsimp only;rw [zht h (zgZ (n:=5) (by decide)).H (zgZ (n:=6) (by decide)).H,zKA,zht h (zgZ (n:=7) (by decide)).H (zgZ (n:=8) (by decide)).H,zKA,zht h (zgZ (n:=8) (by decide)).H (zgZ (n:=7) (by decide)).H,zKA,zht h E0.H E0.H,zKA,t6 d0,zKA];dsimp only;rw [zt,u6 d8,zKA];dsimp only;rw [zt,m1,m2,m3,m4];dsimp only;rw [zn rfl,zt,zn rfl,zt,zn rfl,zt,zt,zn rfl,zt,zn rfl,zt,znQ (p:=pEx) (zgZ (n:=8) (by decide)).S.P,zKA,f8];dsimp only;rw [zn rfl,zt,znQ (p:=pEx) E0.S.P,zKA,f0];dsimp only;rw [zn rfl,zt,zsB h (zgZ (n:=5) (by decide)) (zgZ (n:=6) (by decide)).H,zKA,l1];dsimp only;rw [zt,zsB h (zgZ (n:=7) (by decide)) (zgZ (n:=8) (by decide)).H,zKA,l2];dsimp only;rw [zt,zsB h (zgZ (n:=8) (by decide)) (zgZ (n:=7) (by decide)).H,zKA,l3];dsimp only;rw [Bool.not_false,zt,t1,zKA];dsimp only;rw [zt,t2,zKA];dsimp only;rw [zt,t3,zKA];dsimp only;rw [zt,t4,zKA];dsimp only;rw [zt,u5,zKA];dsimp only;rw [zt,d0];rfl
theorem triMoves_plain (l m:List (BitVec 8)):Z2 l m=some (true,()):=by
 obtain ⟨p,ep,h⟩:=zIA l;obtain ⟨ps,epk,hl,hok⟩:=zHs h m 300 (by decide);have hn:=h.n;have hmo:=h.most;have hsl:=h.slots;have epk:V9 p m 300=some (ps,()):=epk;rw [zls,zzZ];simp only [zKA,zKU,zM,ep,zyF h,epk];obtain ⟨e,_⟩:=Z9 (f:=u4) (fun j s=>(true,(ps.length:Int),j,s,ps,())) (fun _=>(true,())) ps (by omega) Zq (fun i s=>∃gh,EG p (yi p+1) i s gh) (s:=xD p) ⟨gh0 p,zF9 h⟩
  (fun i s x hx hi ⟨gh,I⟩=>by
   have hxo:=hok x (zKG hx);have es:=zzf h I.G.E hxo;obtain ⟨gh',I',_⟩:=I.next h (by omega) (zfP p x);have hm:=zIY h I.G (zEv h (by omega) I.G (zfP p x));rw [<-es] at I' hm;refine ⟨⟨gh',I'⟩,?_⟩;have E:=I.G.E;have E':=I'.G.E;have hN:=E.H.n;have hN':=E'.H.n;have hsn:=yS (i:=i) (by omega);have hsame:=zss s.H (Zq s x).H (by omega) (fun y hy=>by have:=(E.H.objs y hy).1;have:=E.H.slots;omega);have eSl:s.H.Slots=(Zq s x).H.Slots:=E.H.slots.trans E'.H.slots.symm;rw [zn eSl,zLw] at hsame;show u4 (true,(ps.length:Int),(i:Int),s,ps,())=_;rw [zaI,zr,yf,vN,zKA,zLi,hx,zKA,zub h E,zKA];dsimp only;rw [zht h E.H E'.H,zKA,hsame,zKA];dsimp only;generalize Zq s x=s' at hm E' hN' ⊢;rcases hm with ⟨e,hT,hH⟩ | ⟨o,e,_,h1,h2,hH,_⟩ | ⟨o,e,_,h1,h2,hH⟩ | ⟨e,hH,h2⟩ | ⟨o,e,_,hT,hlen,hne⟩
   .rw [e,hT,hH];dsimp only;rw [zn rfl,zt,zn rfl,zt,zn rfl,zn rfl,hsn];rfl
   .rw [e,hH];dsimp only;rw [zG (by decide),zM,zn rfl,zt,zn rfl,zt,zg4,zKA,h1,zg4,zKA,h2,hsn];rfl
   .rw [e,hH];dsimp only;rw [zG (by decide),zM,zG (by decide),zM,zn rfl,zt,zn rfl,zt,zg4,zKA,h1,zg4,zKA,h2,hsn];rfl
   .have hne:decide (s.H.Objs=s'.H.Objs)=false:=zG (fun q=>by have:=congrArg List.length q;rw [hH,Zb] at this;omega);rw [e,hne];dsimp only;rw [zG (by decide),zM,zG (by decide),zM,zG (by decide),zM,zn rfl,zt,Bool.not_false,zt,yS,zn (by rw [hH,Zb]),zt,zg4,zKA,h2,hsn];rfl
   .have hne:decide (s.H.Objs=s'.H.Objs)=false:=zG (fun q=>hne q.symm);rw [e,hne,hT];dsimp only;rw [zG (by decide),zM,zG (by decide),zM,zG (by decide),zM,zG (by decide),zM,zn rfl,zt,Bool.not_false,zt,zn rfl,zn rfl,hlen,zn rfl,hsn];rfl)
  (fun s _=>by
   show u4 (true,(ps.length:Int),(ps.length:Int),s,ps,())=_;rw [zaI,zr,zi])
 rw [e];rfl
end B20
end
end Go.Pe.G
