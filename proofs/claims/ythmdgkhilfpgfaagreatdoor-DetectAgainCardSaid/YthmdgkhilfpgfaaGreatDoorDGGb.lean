/- Own work of this seat: GH, G3. -/
import Derived.Test.YthmdgkhilfpgfaaGreatDoorDGGa
set_option linter.unusedVariables false
set_option linter.unusedSectionVars false
set_option linter.unusedSimpArgs false
set_option linter.unnecessarySimpa false
set_option linter.deprecated false
set_option maxRecDepth 100000
namespace Go.Pe.G
open Go.Pe
theorem zou {A B D:Type} (g:A→Option (xH A B D)) {o:xH Unit B D}: ∀(k m:Nat) (x:A),ZJ g k x=some o→k≤m→ZJ g m x=some o
 | 0,m,x,h,_=>by cases h
 | k+1,0,x,h,hm=>by omega
 | k+1,m+1,x,h,hm=>by
  simp only [ZJ,Option.bind_eq_some_iff] at h ⊢
  obtain ⟨s,h1,h2⟩:=h
  refine ⟨s,h1,?_⟩
  cases s with
  | again y=>exact zou g k m y h2 (by omega)
  | brk b=>exact h2
  | ret c=>exact h2
theorem ztD {α:Type} (pre post:List α) (z:α):zb2 (pre++z::post) (pre.length:Int) z=some ():=by
 unfold zb2
 rw [if_pos]
 refine ⟨by omega,?_⟩
 simp
theorem zg8 (n:Int) (ys:List Int): ∀(f:Nat) (s:BitVec 64) (l pre:List Int),zc4 f s=some l→ys=pre++l→ZJ (zaC ys) f (n,(pre.length:Int),s,())=some (.brk (n,(ys.length:Int),()))
 | 0,s,l,pre,h,_=>by cases h
 | f+1,s,l,pre,h,e=>by
  simp only [zc4] at h
  simp only [ZJ,zok]
  cases hz:decide (s=0#64) with
  | true =>
   simp only [hz,cond_true,Option.some.injEq] at h
   subst h
   simp only [List.append_nil] at e
   subst e
   rfl
  | false =>
   simp only [hz,cond_false,Option.map_eq_some_iff] at h
   obtain ⟨l',h1,rfl⟩:=h
   have hn:zb2 ys (pre.length:Int) (w64 (tz s+1))=some ():=by rw [e];exact ztD pre l' _
   simp only [Bool.not_false,cond_true,zBW,Option.bind_some,hn]
   have:=zg8 n ys f (s&&&(s-1#64)) l' (pre++[w64 (tz s+1)]) h1 (by rw [e];simp)
   simpa using this
theorem zqi (G:Nat→Prop) (W0:World) (hG:zxv G W0):Xd Go.Proofs.Tryz.prog G W0 119 zaM:=by
 obtain ⟨c,hc⟩:=Option.isSome_iff_exists.1 zBl
 refine zrb (Cg:=zbc []) rfl zuC (fun f s hs=>Oks.at (.cons _ _ _ _ zA0 (zyz hG) (.skip _ _ .nil)) f s hs) rfl zxA (fun g it h=>by cases h) zA3 zCo hc zaM (Nat.le_of_ble_eq_true (by kernel_rfl)) rfl ?_
 rintro n ⟨a,⟨⟩⟩ ys h
 have h:zc4 66 a=some ys:=h
 have e:=zru n ys a
 have k:=zou _ 66 VR _ (zg8 n ys 66 a ys [] h rfl) (by decide)
 refine Eq.trans e ?_
 have k':ZJ (zaC ys) VR (n,0,a,())=some (.brk (n,(ys.length:Int),())):=k
 rw [zaV,k']
 rfl
theorem zyp {a:Int} (h: -9223372036854775808≤a) (h2:a<9223372036854775808):w64 a=a:=by
 rw [zoR]
 omega
theorem zdf (n:Int) (ys:List (List Int)) (l:List Int) (sz:Nat) (h1:1≤sz) (h2:sz<1000000) (h3:l.length<1000000): ∀(f p:Nat) (pre:List (List Int)),(l.drop p).length≤f→ys=pre++vH sz f (l.drop p)→p<2000000 →
  ZJ (ug ys) (f+1) (n,(pre.length:Int),(p:Int),l,(sz:Int),())=some (.brk (n,(ys.length:Int),())):=by
 intro f
 induction f with
 | zero =>
  intro p pre hf e hp
  simp only [ZJ,X9]
  simp only [List.length_drop] at hf
  have: ¬(p:Int)<(l.length:Int):=by omega
  simp only [this,decide_false,cond_false,Option.bind_some]
  simp only [vH,List.append_nil] at e
  rw [e]
 | succ f ih =>
  intro p pre hf e hp
  rw [ZJ,X9]
  by_cases hlt:p<l.length
  ·have hlt':(p:Int)<(l.length:Int):=by omega
   have hcut:cut l (p:Int) (l.length:Int)=some (l.drop p):=by
    unfold cut
    have:(decide (0≤(p:Int))&&decide ((p:Int)≤(l.length:Int))&&decide ((l.length:Int)≤(l.length:Int)))=true:=by simp;omega
    simp only [this,cond_true]
    simp
   obtain ⟨x,r,hxr⟩: ∃x r,l.drop p=x::r:=by
    cases hd:l.drop p with
    | nil=>have:=congrArg List.length hd;simp at this;omega
    | cons x r=>exact ⟨x,r,rfl⟩
   have hch:vH sz (f+1) (l.drop p)=(l.drop p).take sz::vH sz f (l.drop (p+sz)):=by
    rw [hxr];simp only [vH];rw [←hxr,List.drop_drop]
   have hm: ∃m:Nat,(bif decide (((l.drop p).length:Int)<(sz:Int)) then (((l.drop p).length:Int)) else (sz:Int))=(m:Int)∧m=min sz (l.length-p):=by
    simp only [List.length_drop]
    by_cases hs:((l.length-p:Nat):Int)<(sz:Int)
    ·exact ⟨l.length-p,by simp only [hs,decide_true,cond_true],by omega⟩
    ·exact ⟨sz,by simp only [hs,decide_false,cond_false],by omega⟩
   obtain ⟨m,hm1,hm2⟩:=hm
   have hw:w64 ((p:Int)+(m:Int))=((p+m:Nat):Int):=by rw [zyp (by omega) (by omega)];omega
   have hw2:w64 ((p:Int)+(sz:Int))=((p+sz:Nat):Int):=by rw [zyp (by omega) (by omega)];omega
   have hne: ¬((p+m:Nat):Int)=0:=by omega
   simp only [hlt',decide_true,cond_true,hcut,Option.bind_some,hm1,hw,hw2,hne,decide_false,Bool.and_false,cond_false]
   have hn:zb2 ys (pre.length:Int) ((l.drop p).take sz)=some ():=by rw [e,hch];exact ztD pre _ _
   have hcut2:cut l (p:Int) ((p+m:Nat):Int)=some ((l.drop p).take sz):=by
    unfold cut
    have:(decide (0≤(p:Int))&&decide ((p:Int)≤((p+m:Nat):Int))&&decide (((p+m:Nat):Int)≤(l.length:Int)))=true:=by simp;omega
    simp only [this,cond_true]
    refine congrArg some ?_
    simp only [Int.toNat_natCast]
    rw [List.drop_take,Nat.add_sub_cancel_left,hm2]
    by_cases hs:sz≤l.length-p
    ·rw [Nat.min_eq_left hs]
    ·rw [Nat.min_eq_right (by omega),List.take_of_length_le (l:=l.drop p) (by simp),List.take_of_length_le (l:=l.drop p) (by simp;omega)]
   have hnext:=ih (p+sz) (pre++[(l.drop p).take sz]) (by simp only [List.length_drop] at hf ⊢;omega) (by rw [e,hch];simp) (by omega)
   have hlen:((pre++[(l.drop p).take sz]).length:Int)=(pre.length:Int)+1:=by simp
   rw [hlen] at hnext
   cases hfull:(decide ((p:Int)=0)&&decide (((p+m:Nat):Int)=(l.length:Int))&&decide (((p+m:Nat):Int)=(l.length:Int))) with
   | true =>
    simp only [cond_true]
    have hl:l=(l.drop p).take sz:= ?_
    ·rw [←hl] at hn
     rw [hn]
     exact hnext
    simp only [Bool.and_eq_true,decide_eq_true_eq] at hfull
    obtain ⟨⟨hp0,hpl⟩,_⟩:=hfull
    have hp00:p=0:=by omega
    rw [hp00,List.drop_zero,List.take_of_length_le (by omega)]
   | false =>
    simp only [cond_false,hcut2,Option.bind_some,decide_true,cond_true]
    rw [hn]
    exact hnext
  ·have hnl: ¬(p:Int)<(l.length:Int):=by omega
   have hd:l.drop p=[]:=List.drop_eq_nil_of_le (by omega)
   simp only [hnl,decide_false,cond_false,Option.bind_some]
   rw [hd] at e
   simp only [vH,List.append_nil] at e
   rw [e]
theorem zdU (n:Int) (ys:List (List Int)) (l:List Int) (sz:Int) (h:zit l sz=some ys):ZJ (ug ys) VR (n,0,0,l,sz,())=some (.brk (n,(ys.length:Int),())):=by
 unfold zit at h
 cases hc:(decide (1≤sz)&&decide (sz<1000000)&&decide ((l.length:Int)<1000000)) with
 | false=>simp [hc] at h
 | true =>
  simp only [hc,cond_true] at h
  injection h with h
  simp only [Bool.and_eq_true,decide_eq_true_eq] at hc
  obtain ⟨⟨c1,c2⟩,c3⟩:=hc
  have k:=zou _ (l.length+1) VR _ (zdf n ys l sz.toNat (by omega) (by omega) (by omega) l.length 0 [] (by simp) (by simpa using h.symm) (by omega)) (by unfold VR;omega)
  have hs:((sz.toNat:Nat):Int)=sz:=by omega
  rw [hs] at k
  exact k
theorem zdw (G:Nat→Prop) (W0:World) (hG:zxv G W0):Xd Go.Proofs.Tryz.prog G W0 75 vG:=by
 obtain ⟨c,hc⟩:=Option.isSome_iff_exists.1 zBA
 refine zrb (Cg:=uG []) rfl zuC (fun f s hs=>Oks.at .nil f s hs) rfl zxA (fun g it h=>by cases h) zBs zCH hc vG (Nat.le_of_ble_eq_true (by kernel_rfl)) rfl (fun n x ys h=> ?_)
 refine Eq.trans (zen n ys x.1 x.2.1) ?_
 rw [zaV,zdU n ys x.1 x.2.1 h]
 rfl
end Go.Pe.G
namespace Go.Pe.G
open Go.Pe
theorem k2 {G:Nat→Prop} {W0:World} {f:Nat} {s:zx E} {ss r} (hs:Up Go.Proofs.Tryz.prog G W0 f s) (h:Oks Go.Proofs.Tryz.prog G W0 ((f,ss)::r)) (hc:YZ Go.Proofs.Tryz.prog f=true:=by kernel_rfl):Oks Go.Proofs.Tryz.prog G W0 ((f,s::ss)::r):= .cons _ _ _ _ hc hs h
theorem k1 {G:Nat→Prop} {W0:World} {f:Nat} {s:zx E} {r} (hs:Up Go.Proofs.Tryz.prog G W0 f s) (h:Oks Go.Proofs.Tryz.prog G W0 r) (hc:YZ Go.Proofs.Tryz.prog f=true:=by kernel_rfl):Oks Go.Proofs.Tryz.prog G W0 ((f,[s])::r):= .cons _ _ _ _ hc hs (.skip _ _ h)
abbrev Sd (G:Nat→Prop) (W0:World):=Up (E:=E) Go.Proofs.Tryz.prog G W0
theorem gs {G:Nat→Prop} {W0:World} {l:List (Nat×List (zx E))} {loops mv kept pk its} {f:FuncId} {fn:Func} {inn out:xN} {gi go:List Grp} {hi:Zu E gi=inn.holes} {ho:Zu E go=out.holes} (h:Oks Go.Proofs.Tryz.prog G W0 l) (h2:Its Go.Proofs.Tryz.prog G W0 its) (hf:Go.Proofs.Tryz.prog.funcs[f]? =some fn:=by kernel_rfl) (hb:fn.body.isSome=true:=by kernel_rfl)
  (hk:(cf l loops mv kept pk its).kept=zhp inn.blks 0:=by kernel_rfl) (hn:Nat.ble inn.vals.length fn.ntmps=true:=by kernel_rfl):Up Go.Proofs.Tryz.prog G W0 f (sp (cf l loops mv kept pk its) fn inn out gi go hi ho):=zyj (C:=cf l loops mv kept pk its) zuC (zxp h) rfl (zzB h2) zxA hf hb hk hn
variable {G:Nat→Prop} {W0:World} (hG:zxv G W0)
include hG
theorem zo7:Sd G W0 17 zkJ:=gs .nil .nil
theorem zas:Sd G W0 68 UX:=gs .nil .nil
theorem zjt:Sd G W0 66 zbE:=gs (k1 (zas hG) .nil) .nil
theorem zlc:Sd G W0 110 zcE:=gs .nil .nil
theorem Xf:Sd G W0 112 wG:=gs (k1 (zlc hG) .nil) .nil
theorem Yt:Sd G W0 70 we:=gs (k1 (Xf hG) .nil) .nil
theorem zmM:Sd G W0 109 zeB:=gs (k1 (Yt hG) .nil) .nil
theorem Xc:Sd G W0 150 wH:=gs (k1 (zmM hG) .nil) .nil
theorem Yy:Sd G W0 111 wg:=gs (k1 (Xc hG) .nil) .nil
theorem zfP:Sd G W0 67 zdV:=gs (k1 (Yy hG) .nil) .nil
theorem zpa:Sd G W0 69 zlf:=gs .nil .nil
theorem zmE:Sd G W0 71 zfn:=gs (k1 (zas hG) .nil) .nil
theorem XF:Sd G W0 112 wT:=gs (k1 (zmE hG) .nil) .nil
theorem YY:Sd G W0 70 wA:=gs (k1 (XF hG) .nil) .nil
theorem zmL:Sd G W0 152 ze2:=gs .nil .nil
theorem znI:Sd G W0 115 ziL:=gs (k1 (zmL hG) .nil) .nil
theorem zna:Sd G W0 114 zgz:=gs (k1 (znI hG) .nil) .nil
theorem Yg:Sd G W0 151 xO:=gs (k1 (zna hG) .nil) .nil
theorem ZU:Sd G W0 113 xz:=gs (k1 (Yg hG) .nil) .nil
theorem zpb:Sd G W0 72 zkE:=gs (k1 (ZU hG) .nil) .nil
theorem zoe:Sd G W0 118 zio:=gs .nil .nil
theorem zmy:Sd G W0 117 zfe:=gs (k1 (zoe hG) .nil) .nil
theorem ZC:Sd G W0 153 xu:=gs (k1 (zmy hG) .nil) .nil
theorem Zd:Sd G W0 116 xm:=gs (k1 (ZC hG) .nil) .nil
theorem znG:Sd G W0 73 zia:=gs (k1 (Zd hG) .nil) .nil
theorem zol:Sd G W0 23 zis:=gs (k1 (zo7 hG) (k1 (zjt hG) (k1 (zfP hG) (k1 (zas hG) (k1 (zpa hG) (k1 (YY hG) (k1 (zpb hG) (k1 (znG hG) .nil)))))))) .nil
theorem zj6:Sd G W0 79 zj1:=gs .nil .nil
theorem zax:Sd G W0 40 zcR:=gs (k1 (zj6 hG) .nil) .nil
theorem zsi:Sd G W0 15 zqt:=gs (k1 (zax hG) .nil) .nil
theorem znK:Sd G W0 24 ziP:=gs (k1 (zsi hG) .nil) .nil
theorem zjf:Sd G W0 74 za2:=gs .nil .nil
theorem zpe:Sd G W0 25 zld:=gs (k1 (zjf hG) .nil) .nil
theorem znH:Sd G W0 26 zig:=gs .nil .nil
theorem xK:Sd G W0 28 xE:=gs .nil .nil
theorem Wj:Sd G W0 27 ve:=gs (k1 (xK hG) .nil) .nil
theorem zm7:Sd G W0 29 zgs:=gs .nil .nil
theorem zar:Sd G W0 30 U4:=gs .nil .nil
theorem zau:Sd G W0 31 UZ:=gs .nil .nil
theorem zo3:Sd G W0 32 zkX:=gs .nil .nil
theorem zek:Sd G W0 33 WA:=gs .nil .nil
theorem zpS:Sd G W0 76 zl4:=gs .nil .nil
theorem zrw:Xd Go.Proofs.Tryz.prog G W0 119 zaM:=zqi G W0 hG
theorem zqy:Sd G W0 34 zmk:=gs (k1 (zpS hG) .nil) (.cons _ _ _ (zrw hG) (.nil))
theorem zbp:Sd G W0 43 Z0:=gs .nil .nil
theorem zpM:Sd G W0 154 zl8:=gs .nil .nil
theorem zpI:Sd G W0 155 zmT:=gs .nil .nil
theorem zqh:Sd G W0 156 zl3:=gs .nil .nil
theorem zpZ:Sd G W0 157 zms:=gs .nil .nil
theorem XJ:Sd G W0 121 za3:=gs (k1 (zbp hG) (k1 (zpM hG) (k1 (zpI hG) (k1 (zqh hG) (k1 (zpZ hG) .nil))))) .nil
theorem zet:Sd G W0 77 zcs:=gs (k1 (XJ hG) .nil) .nil
theorem zfT:Sd G W0 78 zdF:=gs .nil .nil
theorem zoX:Sd G W0 35 zk5:=gs (k1 (zet hG) (k1 (zfT hG) .nil)) .nil
theorem YB:Sd G W0 36 XW:=gs .nil .nil
theorem Yb:Sd G W0 38 Y7:=gs (k1 (YB hG) .nil) .nil
theorem Yz:Sd G W0 37 XL:=gs (k1 (Yb hG) .nil) .nil
theorem zep:Xd Go.Proofs.Tryz.prog G W0 75 vG:=zdw G W0 hG
theorem zg9:Sd G W0 8 zfu:=gs (k1 (zol hG) (k1 (znK hG) (k1 (zpe hG) (k1 (znH hG) (k1 (Wj hG) (k1 (xK hG) (k1 (zm7 hG) (k1 (zar hG) (k1 (zau hG) (k1 (zo3 hG) (k1 (zek hG) (k1 (zqy hG) (k1 (zoX hG) (k1 (YB hG) (k1 (Yz hG) (k1 (Yb hG) .nil)))))))))))))))) (.cons _ _ _ (zep hG) (.nil))
theorem uj:Sd G W0 54 vo:=gs .nil .nil
theorem yQ:Sd G W0 53 z7:=gs (k1 (uj hG) .nil) .nil
theorem zhc:Sd G W0 51 zfD:=gs (k1 (yQ hG) .nil) .nil
theorem zhx:Sd G W0 82 zao:=gs .nil .nil
theorem zaK:Sd G W0 84 Zy:=gs .nil .nil
theorem wn:Sd G W0 83 ym:=gs (k1 (zaK hG) .nil) .nil
theorem Ui:Sd G W0 85 uA:=gs .nil .nil
theorem zo1:Sd G W0 50 zlk:=gs (k1 (zhc hG) (k1 (yQ hG) (k1 (zhx hG) (k1 (wn hG) (k1 (Ui hG) .nil))))) .nil
theorem zbn:Sd G W0 86 Z3:=gs .nil .nil
theorem zpO:Sd G W0 52 zmz:=gs (k1 (zbn hG) .nil) .nil
theorem zbV:Sd G W0 87 Yv:=gs .nil .nil
theorem znd:Sd G W0 55 zgV:=gs (k1 (zbV hG) .nil) .nil
theorem zht:Sd G W0 57 zan:=gs (k1 (uj hG) .nil) .nil
theorem xY:Sd G W0 56 yc:=gs (k1 (zht hG) .nil) .nil
theorem zfa:Sd G W0 88 Vv:=gs .nil .nil
theorem zgS:Sd G W0 59 Uu:=gs (k1 (uj hG) (k1 (zfa hG) .nil)) .nil
theorem xD:Sd G W0 58 z6:=gs (k1 (zgS hG) .nil) .nil
theorem znn:Sd G W0 13 ziE:=gs (k1 (zo1 hG) (k1 (zhc hG) (k1 (zpO hG) (k1 (yQ hG) (k1 (uj hG) (k1 (znd hG) (k1 (xY hG) (k1 (xD hG) .nil)))))))) .nil
theorem zh8:Sd G W0 20 zaT:=gs .nil .nil
theorem zjs:Sd G W0 49 zbP:=gs .nil .nil
theorem zey:Sd G W0 12 zcr:=gs (k1 (zjs hG) .nil) .nil
theorem zje:Sd G W0 21 zaW:=gs (k1 (zey hG) .nil) .nil
theorem vO:Sd G W0 132 uk:=gs .nil .nil
theorem uP:Sd G W0 137 ud:=gs .nil .nil
theorem YU:Sd G W0 133 ZH:=gs (k1 (xK hG) (k1 (uP hG) .nil)) .nil
theorem zff:Sd G W0 90 Vm:=gs (k1 (vO hG) (k1 (YU hG) .nil)) .nil
theorem zaS:Sd G W0 134 zaZ:=gs .nil .nil
theorem zeP:Sd G W0 91 Vw:=gs (k1 (zaS hG) .nil) .nil
theorem zgZ:Sd G W0 92 Uw:=gs (k1 (xK hG) .nil) .nil
theorem zdh:Sd G W0 162 Xz:=gs .nil .nil
theorem zkq:Sd G W0 89 zkz:=gs (k1 (zj6 hG) .nil) .nil
theorem zga:Sd G W0 177 zdX:=gs (k1 (zax hG) (k1 (zkq hG) .nil)) .nil
theorem Wu:Sd G W0 180 WS:=gs .nil .nil
theorem uQ:Sd G W0 186 uf:=gs (k1 (Yz hG) (k1 (Yb hG) (k1 (Wu hG) .nil))) .nil
theorem ze1:Sd G W0 163 Vc:=gs (k1 (zar hG) (k1 (zau hG) (k1 (zga hG) (k1 (uQ hG) .nil)))) .nil
theorem ze5:Sd G W0 164 Vq:=gs .nil .nil
theorem zmj:Sd G W0 185 zeH:=gs .nil .nil
theorem zmi:Sd G W0 185 zfb:=gs .nil .nil
theorem zmR:Sd G W0 185 zfl:=gs .nil .nil
theorem zmO:Sd G W0 185 zeL:=gs .nil .nil
theorem uo:Sd G W0 203 ZK:=gs (k1 (XJ hG) .nil) .nil
theorem x6:Sd G W0 204 xX:=gs .nil .nil
theorem zbM:Sd G W0 189 Yi:=gs (k1 (uo hG) (k1 (x6 hG) .nil)) .nil
theorem Zv:Sd G W0 205 uV:=gs .nil .nil
theorem U5:Sd G W0 206 Xp:=gs .nil .nil
theorem x8:Sd G W0 207 xU:=gs .nil .nil
theorem zeq:Sd G W0 190 WP:=gs (k1 (uo hG) (k1 (Zv hG) (k1 (U5 hG) (k1 (x8 hG) .nil)))) .nil
theorem Z7:Sd G W0 208 YS:=gs (k1 (XJ hG) .nil) .nil
theorem Yq:Sd G W0 209 Ze:=gs (k1 (U5 hG) .nil) .nil
theorem zhr:Sd G W0 191 zai:=gs (k1 (Z7 hG) (k1 (Yq hG) .nil)) .nil
theorem zcu:Sd G W0 192 Y2:=gs (k1 (x6 hG) (k1 (x8 hG) (k1 (Z7 hG) .nil))) .nil
theorem zfX:Sd G W0 193 Uc:=gs (k1 (x6 hG) (k1 (Z7 hG) .nil)) .nil
theorem zeu:Sd G W0 210 zcm:=gs .nil .nil
theorem zde:Sd G W0 194 Xx:=gs (k1 (uo hG) (k1 (Zv hG) (k1 (zeu hG) .nil))) .nil
theorem zfp:Sd G W0 195 Vr:=gs (k1 (uo hG) (k1 (x8 hG) (k1 (Yq hG) .nil))) .nil
theorem UW:Sd G W0 211 Xo:=gs (k1 (XJ hG) (k1 (Zv hG) .nil)) .nil
theorem zel:Sd G W0 196 Wz:=gs (k1 (UW hG) .nil) .nil
theorem zeo:Sd G W0 197 WJ:=gs (k1 (x6 hG) (k1 (x8 hG) (k1 (Z7 hG) .nil))) .nil
theorem zeF:Sd G W0 198 Vu:=gs (k1 (x6 hG) (k1 (x8 hG) (k1 (Z7 hG) .nil))) .nil
theorem zfj:Sd G W0 199 VC:=gs (k1 (uo hG) (k1 (Zv hG) .nil)) .nil
theorem zeV:Sd G W0 200 VA:=gs (k1 (uo hG) (k1 (x6 hG) (k1 (zeu hG) .nil))) .nil
theorem zem:Sd G W0 201 WM:=gs (k1 (uo hG) (k1 (Yq hG) .nil)) .nil
theorem zdd:Sd G W0 202 Xu:=gs (k1 (x8 hG) (k1 (UW hG) .nil)) .nil
theorem zf1:Sd G W0 158 zed:=gs (k2 (zmj hG) (k2 (zmi hG) (k2 (zmR hG) (k2 (zmO hG) (.skip _ _ (k1 (zbM hG) (k1 (zeq hG) (k1 (zhr hG) (k1 (zcu hG) (k1 (zfX hG) (k1 (zde hG) (k1 (zfp hG) (k1 (zel hG) (k1 (zeo hG) (k1 (zeF hG) (k1 (zfj hG) (k1 (zeV hG) (k1 (zem hG) (k1 (zdd hG) .nil))))))))))))))))))) .nil
theorem zeK:Sd G W0 165 Vg:=gs (k1 (zf1 hG) (k1 (uQ hG) .nil)) .nil
theorem ze3:Sd G W0 166 Vs:=gs (k1 (uQ hG) .nil) .nil
theorem zgb:Sd G W0 187 zdD:=gs (k1 (XJ hG) .nil) .nil
theorem W6:Sd G W0 188 Ue:=gs .nil .nil
theorem zeT:Sd G W0 181 Vj:=gs (k1 (zgb hG) (k1 (W6 hG) .nil)) .nil
theorem zg3:Sd G W0 182 UG:=gs (k1 (zet hG) (k1 (W6 hG) .nil)) .nil
theorem zej:Sd G W0 183 WI:=gs (k1 (zfT hG) (k1 (XJ hG) (k1 (W6 hG) .nil))) .nil
theorem zdb:Sd G W0 184 Xy:=gs (k1 (zgb hG) (k1 (W6 hG) .nil)) .nil
theorem Yp:Sd G W0 146 Wa:=gs (k1 (zeT hG) (k1 (zg3 hG) (k1 (zej hG) (k1 (zdb hG) .nil)))) .nil
theorem zfd:Sd G W0 167 Vt:=gs (k1 (Yp hG) (k1 (uQ hG) .nil)) .nil
theorem vN:Sd G W0 147 wO:=gs .nil .nil
theorem zfi:Sd G W0 168 Vf:=gs (k1 (YB hG) (k1 (Yz hG) (k1 (vN hG) (k1 (Wu hG) .nil)))) .nil
theorem zdc:Sd G W0 169 Xs:=gs (k1 (Yp hG) .nil) .nil
theorem zhb:Sd G W0 127 zfq:=gs (k1 (zdh hG) (k1 (ze1 hG) (k1 (ze5 hG) (k1 (zeK hG) (k1 (ze3 hG) (k1 (zfd hG) (k1 (zfi hG) (k1 (zdc hG) .nil)))))))) .nil
theorem VD:Sd G W0 135 Z6:=gs (k1 (zhb hG) .nil) .nil
theorem zeM:Sd G W0 93 Vk:=gs (k1 (VD hG) .nil) .nil
theorem zbt:Sd G W0 173 VO:=gs .nil .nil
theorem zcz:Sd G W0 148 zeh:=gs (k1 (zbt hG) .nil) .nil
theorem zaL:Sd G W0 136 W1:=gs (k1 (vO hG) (k1 (zcz hG) .nil)) .nil
theorem zgk:Sd G W0 94 V4:=gs (k1 (vO hG) (k1 (YU hG) (k1 (zaL hG) .nil))) .nil
theorem zgR:Sd G W0 95 UP:=gs (k1 (vO hG) (k1 (zaL hG) (k1 (uP hG) .nil))) .nil
theorem zkm:Sd G W0 138 zks:=gs (k1 (zkq hG) .nil) .nil
theorem zfk:Sd G W0 96 VB:=gs (k1 (zkm hG) .nil) .nil
theorem zdg:Sd G W0 97 Xk:=gs (k1 (xK hG) .nil) .nil
theorem zqs:Sd G W0 139 zmV:=gs (k1 (xK hG) (k1 (vN hG) (k1 (zbt hG) .nil))) .nil
theorem zeJ:Sd G W0 98 Vd:=gs (k1 (vO hG) (k1 (uP hG) (k1 (zqs hG) .nil))) .nil
theorem zk1:Sd G W0 175 zcH:=gs .nil .nil
theorem WQ:Sd G W0 171 vv:=gs (k1 (zk1 hG) .nil) .nil
theorem YD:Sd G W0 170 Zh:=gs .nil .nil
theorem V7:Sd G W0 179 Ym:=gs (k1 (YD hG) .nil) .nil
theorem zfW:Sd G W0 174 zdi:=gs (k1 (V7 hG) .nil) .nil
theorem zmA:Sd G W0 140 zeS:=gs (k1 (WQ hG) (k1 (zfW hG) .nil)) .nil
theorem zd0:Sd G W0 176 X8:=gs .nil .nil
theorem zoj:Sd G W0 141 zjd:=gs (k1 (zfP hG) (k1 (zd0 hG) .nil)) .nil
theorem zbB:Sd G W0 130 zbX:=gs (k1 (zax hG) (k1 (zkm hG) .nil)) .nil
theorem znm:Sd G W0 142 zjo:=gs (k1 (zbB hG) (k1 (zga hG) .nil)) .nil
theorem zeI:Sd G W0 99 Vl:=gs (k1 (vO hG) (k1 (YU hG) (k1 (uP hG) (k1 (zmA hG) (k1 (zoj hG) (k1 (znm hG) .nil)))))) .nil
theorem zlt:Sd G W0 178 zdS:=gs .nil .nil
theorem WZ:Sd G W0 171 vE:=gs (k1 (zlt hG) .nil) .nil
theorem zm5:Sd G W0 143 zgM:=gs (k1 (YD hG) (k1 (WZ hG) .nil)) .nil
theorem zmc:Sd G W0 144 zeN:=gs (k1 (zfW hG) (k1 (V7 hG) .nil)) .nil
theorem Um:Sd G W0 145 YI:=gs (k1 (Yz hG) (k1 (Wu hG) .nil)) .nil
theorem zfZ:Sd G W0 100 VQ:=gs (k1 (YB hG) (k1 (zm5 hG) (k1 (zmc hG) (k1 (Um hG) .nil)))) .nil
theorem zg2:Sd G W0 101 Uv:=gs (k1 (Yp hG) .nil) .nil
theorem ze4:Sd G W0 102 Vn:=gs (k1 (Yb hG) (k1 (Um hG) (k1 (vN hG) .nil))) .nil
theorem zf9:Sd G W0 103 VT:=gs (k1 (Yp hG) .nil) .nil
theorem ze0:Sd G W0 104 Vo:=gs .nil .nil
theorem zci:Sd G W0 149 UL:=gs .nil .nil
theorem zf0:Sd G W0 105 V1:=gs (k1 (zaS hG) (k1 (zcz hG) (k1 (zci hG) .nil))) .nil
theorem zgJ:Sd G W0 106 Ut:=gs (k1 (VD hG) (k1 (zci hG) .nil)) .nil
theorem zlQ:Sd G W0 172 zd7:=gs .nil .nil
theorem W9:Sd G W0 171 vJ:=gs (k1 (zlQ hG) .nil) .nil
theorem zew:Sd G W0 131 zco:=gs (k1 (YD hG) (k1 (W9 hG) .nil)) .nil
theorem zeg:Sd G W0 107 X4:=gs (k1 (zbB hG) (k1 (zew hG) .nil)) .nil
theorem zdH:Sd G W0 108 X1:=gs .nil .nil
theorem zgn:Sd G W0 64 V6:=gs (k1 (zff hG) (k1 (zeP hG) (k1 (zgZ hG) (k1 (zeM hG) (k1 (zgk hG) (k1 (zgR hG) (k1 (zfk hG) (k1 (zdg hG) (k1 (zeJ hG) (k1 (zeI hG) (k1 (zfZ hG) (k1 (zg2 hG) (k1 (ze4 hG) (k1 (zf9 hG) (k1 (ze0 hG) (k1 (zf0 hG) (k1 (zgJ hG) (k1 (zeg hG) (k1 (zdH hG) .nil))))))))))))))))))) .nil
theorem XG:Sd G W0 65 wW:=gs .nil .nil
theorem zdz:Sd G W0 22 zbq:=gs (k1 (zgn hG) (k1 (XG hG) .nil)) .nil
theorem zfQ:Sd G W0 7 Ub:=gs (k1 (zg9 hG) (k1 (znn hG) (k1 (zh8 hG) (k1 (zje hG) (k1 (zdz hG) .nil))))) .nil
theorem XY:Sd G W0 39 u9:=gs .nil .nil
theorem zd3:Sd G W0 41 Wf:=gs (k1 (XY hG) .nil) .nil
theorem zjO:Sd G W0 9 zbN:=gs (k1 (XY hG) (k1 (zax hG) (k1 (zd3 hG) .nil))) .nil
theorem zgx:Sd G W0 122 UH:=gs (k1 (Yp hG) .nil) .nil
theorem UU:Sd G W0 129 Xn:=gs .nil .nil
theorem zcU:Sd G W0 160 zaA:=gs (k1 (zar hG) (k1 (zau hG) .nil)) .nil
theorem zbu:Sd G W0 161 VN:=gs (k1 (Yz hG) (k1 (Wu hG) .nil)) .nil
theorem zgL:Sd G W0 159 UN:=gs (k1 (YB hG) (k1 (zcU hG) (k1 (zbu hG) .nil))) .nil
theorem zhF:Sd G W0 123 zaj:=gs (k1 (UU hG) (k1 (zf1 hG) (k1 (zgL hG) .nil))) .nil
theorem zgf:Sd G W0 124 VV:=gs (k1 (zcU hG) .nil) .nil
theorem zgy:Sd G W0 125 Ux:=gs (k1 (Yb hG) (k1 (vN hG) (k1 (zbu hG) .nil))) .nil
theorem zcX:Sd G W0 128 zaH:=gs .nil .nil
theorem zgN:Sd G W0 126 UB:=gs (k1 (zcX hG) (k1 (zaS hG) (k1 (zcz hG) .nil))) .nil
theorem zgu:Sd G W0 80 UK:=gs (k1 (zgx hG) (k1 (zhF hG) (k1 (zgf hG) (k1 (zgy hG) (k1 (zgN hG) (k1 (zhb hG) (k1 (zcX hG) (k1 (UU hG) (k1 (zbB hG) (k1 (zew hG) .nil)))))))))) .nil
theorem Wx:Sd G W0 81 vl:=gs .nil .nil
theorem zm9:Sd G W0 42 zgB:=gs (k1 (zgu hG) (k1 (Wx hG) .nil)) .nil
theorem zjv:Sd G W0 10 zbI:=gs (k1 (zey hG) (k1 (zdz hG) (k1 (zm9 hG) .nil))) .nil
theorem znc:Sd G W0 60 zgW:=gs .nil .nil
theorem zne:Sd G W0 14 zgK:=gs (k1 (znc hG) .nil) .nil
theorem zec:Sd G W0 5 Wh:=gs (k1 (zfQ hG) (k1 (zg9 hG) (k1 (zjO hG) (k1 (zjv hG) (k1 (zne hG) .nil))))) .nil
end Go.Pe.G
