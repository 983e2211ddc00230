/- What functions of the program do, by the machine: Dw4 Cd1 Cod1 Cod2 Cod3 Cod4 Cod5 Val27 Val28 LCo. -/
import Derived.Test.YteninfkgajnfcaaGreatDE
import Derived.KernelRfl
import Derived.Test.YteninfkgajnfcaaGreatRows
namespace Go.Proofs.YteninfkgajnfcaaGreat.Den
open Go.Proofs.Tryz
open List (all_eq_true append_assoc append_nil drop drop_zero isEmpty_iff length_append length_cons length_singleton mem_cons mem_cons_of_mem mem_cons_self nil_append take take_length)
open Nat (add_assoc lt_irrefl pow_succ zero_add zero_le)
open Option (map_eq_some_iff)
open Go.Proofs
set_option maxRecDepth 100000
def M7 (f:(List Int)->List Nd×List Ty×Bool):Gm
 | [.sl (.int .u8) l],[]=>.need (decide ((Cur.mk l 0 0).good 0)) (.leaf (.tup [.agg [.ref 0 0 (f l ).1.length],.agg [.ref 1 0 (f l ).2.1.length]],[some (.row false none NCd (f l ).1),some (.row (f l ).2.2 none TCd (f l ).2.1)]))
 | _,_=>.no
def MD (f:(List Int)->List UInt8×List Ty×Nat×Bool):Gm
 | [.sl (.int .u8) l],[]=>.need (decide ((Cur.mk l 0 0).good 0)) (.leaf (.tup [.s (f l ).1,.agg [.ref 0 0 (f l ).2.2.1]],[some (.row (f l ).2.2.2 none TCd (f l ).2.1)]))
 | _,_=>.no
theorem Tu (f:List Int->List Nd×List Ty×Bool) (l:List Int)  : Bt prog (Ab [(39,.rd1 (Py f))]) (Ab []) f6 [.sl (.int .u8) l] [] =
 ((ifT (decide ((Cur.mk l (0:Int) (0:Int)).good (0:Int))) (some (V.tup [V.agg [V.ref 0 0 (f l).fst.length],V.agg [V.ref 1 0 (f l).snd.fst.length]],[some (Blk.row
 false none NCd (f l).fst),some (Blk.row (f l).snd.snd none TCd (f l).snd.fst)]))):_):=by kernel_rfl
theorem XT (l:List Int)  (hc:(Cur.mk l 0 0).good 0):Ex1 (Bt prog (Ab [(39,.rd1 (Py FT))]) (Ab []) f6 [.sl (.int .u8) l] []) (fun y:List Nd×List Ty×Bool=>((.tup [.agg [.ref 0 0 y.1.length],.agg [.ref 1 0 y.2.1.length]],[some (.row false none NCd y.1),some (.row y.2.2 none TCd y.2.1)]):V×List (Option Blk))) (fun y=>(1<=y.1.length/\y.1.length<=10000)/\nmL y.2.1=true/\1<=y.2.1.length/\y.2.1.length<=30):=by
 refine Ex1.of (Tu FT l ) ?_
 obtain ⟨⟨a1,a2⟩,a3,a4,a5⟩:=XO l hc
 repeat with_reducible refine Ex1.sh ?_
 try simp only [AI,drop_zero,take_length,zero_add]
 refine Ex1.T (dcT hc) ?_
 exact Ex1.P (_,_,_) rfl rfl ⟨⟨a1,a2⟩,a3,a4,a5⟩
theorem KY : ∃ f:(List Int)->List Nd×List Ty×Bool,Ad prog 6 (Ent.rd1 (M7 f)).F/\∀ (l:List Int) ,((Cur.mk l 0 0).good 0)->(1<=(f l ).1.length/\(f l ).1.length<=10000)/\nmL (f l ).2.1=true/\1<=(f l ).2.1.length/\(f l ).2.1.length<=30:=by
 have ex:=fun (l:List Int)  (hc:(Cur.mk l 0 0).good 0)=>XT l  hc
 classical
 refine ⟨fun l  => if h:(Cur.mk l 0 0).good 0 then (ex l  h).choose else ([],[],false),?_,fun l  hc=>?_⟩
 rotate_left
 ·simp only [dif_pos hc]
  exact (ex l  hc).choose_spec.2
 refine Au (kc func39 VT KnowsL.nil).knows (Λ:=(Ab [])) func6 (c:=f6.body.getD .skip) (by kernel_rfl) fun vs bs r hq hv hb=>?_
 unfold Ent.F M7 at hq
 dsimp only at hq
 split at hq
 ·rename_i l 
  obtain ⟨hc,hx⟩:=Ae hq
  have hc:=of_decide_eq_true hc
  refine ⟨Aq _,((ex l  hc).choose_spec.1).trans ?_⟩
  rw [dif_pos hc] at hx
  exact hx
 ·cases hq
noncomputable def FU:(List Int)->List Nd×List Ty×Bool:=KY.choose
theorem VV:Ad prog 6 (Ent.rd1 (M7 FU)).F:=KY.choose_spec.1
theorem XS : ∀ (l:List Int) ,((Cur.mk l 0 0).good 0)->(1<=(FU l ).1.length/\(FU l ).1.length<=10000)/\nmL (FU l ).2.1=true/\1<=(FU l ).2.1.length/\(FU l ).2.1.length<=30:=KY.choose_spec.2
theorem T0 (f:Cur->(List Ty)×Cur) (g:List Ty->Cur->(List UInt8)×Cur) (h:List Ty->Cur->(List Ty×Nat)×Cur) (k:Cur->(List Ty)×Cur) (l:List Int)  : Bt prog (Ab [(51,.own (HQ f)),(52,.mix (Wh g)),(53,.own C7),(54,.mix (Wk h)),(55,.own (KV k))]) (Ab []) f15 [.sl (.int .u8) l] [] =
 ((shr (Cur.mk l (0:Int) (0:Int)) fun sh3=>shr (f sh3).snd fun sh2=>shr (take (f sh3).fst.length (drop 0 (f sh3).fst)) fun sh1=>ifT (decide
 (sh3.good (80000000:Int))) (ifT (decide (AC sh1=true/\nmL sh1=true/\sh1.length<=30/\sh2.good (40000000:Int))) (ifT (decide ((g sh1 sh2).snd.good
 (900000000:Int))) (ifB ((g sh1 sh2).snd.pickV (3:Int)==(0:Int)) (ifT (decide (AC sh1=true/\nmL sh1=true/\1<=sh1.length/\sh1.length<=30
 /\ ((g sh1 sh2).snd.pickC (3:Int)).good (50000000:Int))) (ifT (decide ((h sh1 ((g sh1 sh2).snd.pickC (3:Int))).snd.good (900000000:Int))) (ifB ((h sh1 ((g sh1
 sh2).snd.pickC (3:Int))).snd.pickV (20:Int)==(0:Int)) (ifT (decide (((h sh1 ((g sh1 sh2).snd.pickC (3:Int))).snd.pickC (20:Int)).good (70000000:Int))) (some
 (V.tup [V.s (g sh1 sh2).fst,V.agg [V.ref 0 0 (k ((h sh1 ((g sh1 sh2).snd.pickC (3:Int))).snd.pickC (20:Int))).fst.length]],[some (Blk.row false none TCd (k ((h sh1
 ((g sh1 sh2).snd.pickC (3:Int))).snd.pickC (20:Int))).fst)]))) (some (V.tup [V.s (g sh1 sh2).fst,V.agg [V.ref 0 0 (h sh1 ((g sh1 sh2).snd.pickC (3 :
 Int))).fst.snd]],[some (Blk.row false none TCd (h sh1 ((g sh1 sh2).snd.pickC (3:Int))).fst.fst)]))))) (ifT (decide (((g sh1 sh2).snd.pickC (3:Int)).good (900000000 :
 Int))) (ifB (((g sh1 sh2).snd.pickC (3:Int)).pickV (20:Int)==(0:Int)) (ifT (decide ((((g sh1 sh2).snd.pickC (3:Int)).pickC (20:Int)).good (70000000:Int)))
 (some (V.tup [V.s (g sh1 sh2).fst,V.agg [V.ref 0 0 (k (((g sh1 sh2).snd.pickC (3:Int)).pickC (20:Int))).fst.length]],[some (Blk.row false none TCd (k (((g sh1
 sh2).snd.pickC (3:Int)).pickC (20:Int))).fst)]))) (some (V.tup [V.s (g sh1 sh2).fst,V.agg [V.ref 0 0 (f sh3).fst.length]],[some (Blk.row true none TCd (f
 sh3).fst)])))))))):_):=by kernel_rfl
theorem Yf (l:List Int)  (hc:(Cur.mk l 0 0).good 0):Ex1 (Bt prog (Ab [(51,.own (HQ BS)),(52,.mix (Wh ME)),(53,.own C7),(54,.mix (Wk G9)),(55,.own (KV Fj))]) (Ab []) f15 [.sl (.int .u8) l] []) (fun y:List UInt8×List Ty×Nat×Bool=>((.tup [.s y.1,.agg [.ref 0 0 y.2.2.1]],[some (.row y.2.2.2 none TCd y.2.1)]):V×List (Option Blk))) (fun y=>y.1.length<=403/\nmL y.2.1=true/\1<=y.2.2.1/\y.2.2.1<=y.2.1.length/\y.2.1.length<=30):=by
 refine Ex1.of (T0 BS ME G9 Fj l ) ?_
 have h7:=Cur.good_mono hc (show (0:Int)<=80000000 by omega)
 obtain ⟨a1,a2,a3,a4,a5⟩:=N9 (Cur.mk l 0 0) h7
 have b1:=a1 0 hc (by omega)
 obtain ⟨c1,c2⟩:=Aaa (BS (Cur.mk l 0 0)).1 (BS (Cur.mk l 0 0)).2 ⟨a2,a3,a5,Cur.good_mono b1 (by omega)⟩
 have d1:=c1 _ b1 (by omega)
 repeat with_reducible refine Ex1.sh ?_
 try simp only [drop_zero,take_length]
 generalize ME (BS (Cur.mk l 0 0)).1 (BS (Cur.mk l 0 0)).2=B at *
 obtain ⟨b,c⟩:=B
 dsimp only at *
 generalize (BS (Cur.mk l 0 0)).1=v at *
 have d2:=Cur.pickC_good (k:=3) d1
 obtain ⟨e1,e2,e3,e4,e5⟩:=Aac v (c.pickC 3) ⟨a2,a3,a4,a5,Cur.good_mono d2 (by omega)⟩
 have d3:=e1 _ d2 (by omega)
 have d4:=Cur.pickC_good (k:=20) d3
 have d5:=Cur.pickC_good (k:=20) d2
 obtain ⟨_,m1,m2,m3⟩:=NA ((G9 v (c.pickC 3)).2.pickC 20) (Cur.good_mono d4 (by omega))
 obtain ⟨_,n1,n2,n3⟩:=NA ((c.pickC 3).pickC 20) (Cur.good_mono d5 (by omega))
 repeat' first
  | with_reducible refine Ex1.B (fun h=>?_) (fun h=>?_)
  | with_reducible refine Ex1.T ?_ ?_
 all_goals first
  | exact dcT h7
  | exact dcT ⟨a2,a3,a5,Cur.good_mono b1 (by omega)⟩
  | exact dcT (Cur.good_mono d1 (by omega))
  | exact dcT (Cur.good_mono d2 (by omega))
  | exact dcT (Cur.good_mono d3 (by omega))
  | exact dcT (Cur.good_mono d4 (by omega))
  | exact dcT (Cur.good_mono d5 (by omega))
  | exact dcT ⟨a2,a3,a4,a5,Cur.good_mono d2 (by omega)⟩
  | exact Ex1.P (_,_,_,_) rfl rfl ⟨c2,m1,m2,Nat.le_refl _,m3⟩
  | exact Ex1.P (_,_,_,_) rfl rfl ⟨c2,n1,n2,Nat.le_refl _,n3⟩
  | exact Ex1.P (_,_,_,_) rfl rfl ⟨c2,e5,e2,e3,e4⟩
  | exact Ex1.P (_,_,_,_) rfl rfl ⟨c2,a3,a4,Nat.le_refl _,a5⟩
theorem Li : ∃ f:(List Int)->List UInt8×List Ty×Nat×Bool,Ad prog 15 (Ent.rd1 (MD f)).F/\∀ (l:List Int) ,((Cur.mk l 0 0).good 0)->(f l ).1.length<=403/\nmL (f l ).2.1=true/\1<=(f l ).2.2.1/\(f l ).2.2.1<=(f l ).2.1.length/\(f l ).2.1.length<=30:=by
 have ex:=fun (l:List Int)  (hc:(Cur.mk l 0 0).good 0)=>Yf l  hc
 classical
 refine ⟨fun l  => if h:(Cur.mk l 0 0).good 0 then (ex l  h).choose else ([],[],0,false),?_,fun l  hc=>?_⟩
 rotate_left
 ·simp only [dif_pos hc]
  exact (ex l  hc).choose_spec.2
 refine Au (kc func51 KP (kc func52 Yg (kc func53 QR (kc func54 Yh (kc func55 Pw KnowsL.nil))))).knows (Λ:=(Ab [])) func15 (c:=f15.body.getD .skip) (by kernel_rfl) fun vs bs r hq hv hb=>?_
 unfold Ent.F MD at hq
 dsimp only at hq
 split at hq
 ·rename_i l 
  obtain ⟨hc,hx⟩:=Ae hq
  have hc:=of_decide_eq_true hc
  refine ⟨Aq _,((ex l  hc).choose_spec.1).trans ?_⟩
  rw [dif_pos hc] at hx
  exact hx
 ·cases hq
noncomputable def Fl:(List Int)->List UInt8×List Ty×Nat×Bool:=Li.choose
theorem Wf:Ad prog 15 (Ent.rd1 (MD Fl)).F:=Li.choose_spec.1
theorem Ye : ∀ (l:List Int) ,((Cur.mk l 0 0).good 0)->(Fl l ).1.length<=403/\nmL (Fl l ).2.1=true/\1<=(Fl l ).2.2.1/\(Fl l ).2.2.1<=(Fl l ).2.1.length/\(Fl l ).2.1.length<=30:=Li.choose_spec.2
def idG:Gm
 | [.s s,.agg [.sl TCd l]],[]=>.need (decide (l.length<=4000000000)&&(nmL l&&decide (s.length<=4000000000))) (.leaf (.tup [.agg [.ref 0 0 (sdL l s).length],.b (sdB l s)],[some (.row false none NCd (sdL l s))]))
 | _,_=>.no
def ivG:Gm
 | [.s s,.agg [.sl TCd l]],[]=>.need (decide (l.length<=4000000000)&&(nmL l&&decide (s.length<=4000000000))) (.leaf (.tup [.b (Iw l s),.b (Iv l s)],[]))
 | _,_=>.no
def niG:Gm
 | [.agg [.sl NCd v],.agg [.sl TCd l]],[]=>.need (decide (l.length<=4000000000)&&nmL l) (.leaf (.tup [.i .i64 (bif CH v l then (v.length:Int) else 0),.b (CH v l)],[]))
 | _,_=>.no
theorem SW (v:List Nd) (l:List Ty):Bt prog (Ab [(40,.rd1 Gk),(41,.rd1 Nx),(42,.rd1 Vh)]) (Ab []) f7 [.agg [.sl NCd v],.agg [.sl TCd l]] [] =
 ((shr (kf l 0).fst fun sh3=>shr sh3.lab.snd fun sh2=>shr (Rose.node (sh3.lab.fst,sh2.fst,sh2.snd.fst,sh2.snd.snd.fst,sh2.snd.snd.snd.fst,()) (take
 sh3.kids.length (drop 0 sh3.kids))) fun sh1=>ifT (decide (l.length<=4000000000)&&nmL l) (ifB (AC l) (ifT (decide (Ao sh1<=1000000
 /\ Aj sh1=true)) (ifB (!Ew sh1 v) (some (V.tup [V.s (Ag UInt8),V.b false],[])) (ifT (decide (Ao sh1<=1000000/\Aj sh1=true/\0 <
 v.length/\v.length<=40)&&sfR (vtr v 0) sh1) (some (V.tup [V.s (bif ecB sh1 v then ecL sh1 v else Ag UInt8),V.b (ecB sh1 v)],[]))))) (some (V.tup
 [V.s (Ag UInt8),V.b false],[])))):_):=by kernel_rfl
theorem SX (s:List UInt8) (l:List Ty):Bt prog (Ab [(40,.rd1 Gk),(49,.rd1 Vd)]) (Ab []) f12 [.s s,.agg [.sl TCd l]] [] =
 ((shr (kf l 0).fst fun sh3=>shr sh3.lab.snd fun sh2=>shr (Rose.node (sh3.lab.fst,sh2.fst,sh2.snd.fst,sh2.snd.snd.fst,sh2.snd.snd.snd.fst,()) (take
 sh3.kids.length (drop 0 sh3.kids))) fun sh1=>ifT (decide (l.length<=4000000000)&&nmL l) (ifB (AC l) (ifT (decide (CY sh1=true/\s.length
 <= 4000000000)) (some (V.tup [V.agg [V.ref 0 0 (dvL sh1 s).length],V.b (dvB sh1 s)],[some (Blk.row false none NCd (dvL sh1 s))]))) (some (V.tup [V.agg [V.ref 0 0
 0],V.b false],[some (Blk.row false none NCd (Ag NCd.den))])))):_):=by kernel_rfl
theorem Vr (s:List UInt8) (l:List Ty):Bt prog (Ab [(40,.rd1 Gk),(50,.rd1 MM)]) (Ab []) f13 [.s s,.agg [.sl TCd l]] [] =
 ((shr (kf l 0).fst fun sh3=>shr sh3.lab.snd fun sh2=>shr (Rose.node (sh3.lab.fst,sh2.fst,sh2.snd.fst,sh2.snd.snd.fst,sh2.snd.snd.snd.fst,()) (take
 sh3.kids.length (drop 0 sh3.kids))) fun sh1=>ifT (decide (l.length<=4000000000)&&nmL l) (ifB (AC l) (ifB (decide ((↑s.length:Int)>(400 :
 Int))) (some (V.tup [V.b false,V.b false],[])) (ifT (decide (CY sh1=true/\s.length<=4000000000)) (some (V.tup [V.b (Fz sh1 s),V.b true],[])))) (some
 (V.tup [V.b false,V.b false],[])))):_):=by kernel_rfl
theorem Vp (v:List Nd) (l:List Ty):Bt prog (Ab [(10,.rd1 M0)]) (Ab []) f9 [.agg [.sl NCd v],.agg [.sl TCd l]] [] =
 ((ifT (decide (l.length<=4000000000)&&nmL l) (ifB (!CH v l) (some (V.tup [V.j 0,V.b false],[])) (some (V.tup [V.j (↑v.length:Int),V.b true],
 [])))):_):=by kernel_rfl
theorem Aco:Ad prog 7 (Ent.rd1 seG).F:=by
 refine Au (kc func40 Nv (kc func41 Y4 (kc func42 Ack KnowsL.nil))).knows (Λ:=Ab []) func7 (c:=f7.body.getD .skip) (by kernel_rfl) fun vs bs r hq hv hb=>?_
 unfold Ent.F seG at hq
 dsimp only at hq
 split at hq
 ·rename_i v l
  obtain ⟨hc,hx⟩:=Ae hq
  refine ⟨Aq _,(SW v l).trans (Eq.trans ?_ hx)⟩
  try dsimp only [shr]
  show _=some _
  have hc':=hc
  rw [anE,anE,dcE,dcE] at hc'
  rw [show (decide (l.length<=4000000000)&&nmL l)=true by rw [anE]; exact ⟨dcT hc'.1.1,hc'.1.2⟩,Dc]
  simp only [AT,drop_zero,take_length]
  unfold seL seB
  rw [<-JB]
  unfold CH
  cases hk:AC l with
  | false=>rfl
  | true=>
   obtain ⟨k1,k2,k3,k4⟩:=G1 hk
   rw [k4,Bq,Aa (dcT ⟨k2,k3⟩)]
   cases hf:Ew (t2L l 0) v with
   | false=>rfl
   | true=>
    have hv:Df v l=true:=by rw [<-JB]; unfold CH; rw [hk,k4,hf]; rfl
    obtain ⟨_,h0,h40,H,hsf⟩:=EF hv
    rw [PR hv] at hsf
    rw [Bool.not_true,Bd,Aa (by rw [hsf,Bool.and_true]; exact dcT ⟨k2,k3,h0,h40⟩)]
    rfl
 ·cases hq
theorem Acp:Ad prog 12 (Ent.rd1 idG).F:=by
 refine Au (kc func40 Nv (kc func49 Acj KnowsL.nil)).knows (Λ:=Ab []) func12 (c:=f12.body.getD .skip) (by kernel_rfl) fun vs bs r hq hv hb=>?_
 unfold Ent.F idG at hq
 dsimp only at hq
 split at hq
 ·rename_i s l
  obtain ⟨hc,hx⟩:=Ae hq
  refine ⟨Aq _,(SX s l).trans (Eq.trans ?_ hx)⟩
  try dsimp only [shr]
  show _=some _
  have hc':=hc
  rw [anE,anE,dcE,dcE] at hc'
  rw [show (decide (l.length<=4000000000)&&nmL l)=true by rw [anE]; exact ⟨dcT hc'.1,hc'.2.1⟩,Dc]
  simp only [AT,drop_zero,take_length]
  unfold sdL sdB
  cases hk:AC l with
  | false=>rfl
  | true=>
   rw [(G1 hk).2.2.2,Bq,Aa (dcT ⟨(Dv hk).1,hc'.2.2⟩),Bool.true_and]
   unfold dvL
   cases hd:dvB (t2L l 0) s<;>rfl
 ·cases hq
theorem iiv:Ad prog 13 (Ent.rd1 ivG).F:=by
 refine Au (kc func40 Nv (kc func50 LM KnowsL.nil)).knows (Λ:=Ab []) func13 (c:=f13.body.getD .skip) (by kernel_rfl) fun vs bs r hq hv hb=>?_
 unfold Ent.F ivG at hq
 dsimp only at hq
 split at hq
 ·rename_i s l
  obtain ⟨hc,hx⟩:=Ae hq
  refine ⟨Aq _,(Vr s l).trans (Eq.trans ?_ hx)⟩
  try dsimp only [shr]
  show _=some _
  have hc':=hc
  rw [anE,anE,dcE,dcE] at hc'
  rw [show (decide (l.length<=4000000000)&&nmL l)=true by rw [anE]; exact ⟨dcT hc'.1,hc'.2.1⟩,Dc]
  simp only [AT,drop_zero,take_length]
  unfold Iw Iv
  cases hk:AC l with
  | false=>rw [Bool.and_false]; rfl
  | true=>
   rw [(G1 hk).2.2.2,Bq]
   by_cases q:s.length<=400
   ·rw [Ac (dcF (by omega)),Aa (dcT ⟨(Dv hk).1,hc'.2.2⟩),dcT q]
    unfold Fz
    rw [dcT q]
    rfl
   ·rw [Af (dcT (by omega)),dcF q]; rfl
 ·cases hq
theorem ini:Ad prog 9 (Ent.rd1 niG).F:=by
 refine Au (kc func10 Y6 KnowsL.nil).knows (Λ:=Ab []) func9 (c:=f9.body.getD .skip) (by kernel_rfl) fun vs bs r hq hv hb=>?_
 unfold Ent.F niG at hq
 dsimp only at hq
 split at hq
 ·rename_i v l
  obtain ⟨hc,hx⟩:=Ae hq
  refine ⟨Aq _,(Vp v l).trans (Eq.trans ?_ hx)⟩
  try dsimp only [shr]
  show _=some _
  rw [Aa hc]
  cases hv:CH v l<;>rfl
 ·cases hq

theorem WC {g:Nat} {b:UInt8} {l:List UInt8} {i n:Nat}:tv (g+1) (b::l) i n=if b.toNat<128 then some (n+b.toNat % 128*2 ^ (7*i),i+1,decide (n+b.toNat % 128*2 ^ (7*i)<=2000000001)&&(decide (0<b.toNat)||decide (i=0))) else tv g l (i+1) (n+b.toNat % 128*2 ^ (7*i)):=rfl
theorem TX : ∀ (f g n i acc:Nat) (post:List UInt8),n<128 ^ (f+1)->(Bm f n).1.length<g->(0<n\/i=0)->
  tv g ((Bm f n).1++UInt8.ofNat (Bm f n).2::post) i acc=some (acc+n*2 ^ (7*i),i+(Bm f n).1.length+1,decide (acc+n*2 ^ (7*i)<=2000000001))
 | 0,g,n,i,acc,post,h,hg,h0=>by
  have h:n<128:=by simpa using h
  obtain ⟨g,rfl⟩ : ∃ k,g=k+1:=⟨g-1,by omega⟩
  have hb:(UInt8.ofNat n).toNat=n:=by rw [UInt8.toNat_ofNat']; omega
  rw [Bm,nil_append,WC,hb,if_pos h,Nat.mod_eq_of_lt h]
  have:(decide (0<n)||decide (i=0))=true:=by simpa using h0
  rw [this,Bool.and_true]; rfl
 | f+1,g,n,i,acc,post,h,hg,h0=>by
  by_cases q:128<=n
  ·rw [D9 q] at hg ⊢
   dsimp only at hg ⊢
   rw [length_cons] at hg
   obtain ⟨g,rfl⟩ : ∃ k,g=k+1:=⟨g-1,by omega⟩
   have hb:(UInt8.ofNat (n % 128+128)).toNat=n % 128+128:=by rw [UInt8.toNat_ofNat']; omega
   rw [List.cons_append,WC,hb,if_neg (by omega),show (n % 128+128) % 128=n % 128 by omega]
   rw [pow_succ] at h
   rw [TX f g (n / 128) (i+1) _ post (Nat.div_lt_of_lt_mul (by omega)) (by omega) (.inl (by omega))]
   have e:acc+n % 128*2 ^ (7*i)+n / 128*2 ^ (7*(i+1))=acc+n*2 ^ (7*i):=by
    have e1:2 ^ (7*(i+1))=128*2 ^ (7*i):=by rw [Nat.mul_add,Nat.pow_add]; omega
    have e2:n*2 ^ (7*i)=(n % 128)*2 ^ (7*i)+(n / 128)*(128*2 ^ (7*i)):=by
     rw [<-Nat.mul_assoc,<-Nat.add_mul]; congr 1; omega
    rw [e1,e2]; omega
   rw [e,length_cons]
   congr 3
   omega
  ·have h:n<128:=by omega
   rw [CE h] at hg ⊢
   obtain ⟨g,rfl⟩ : ∃ k,g=k+1:=⟨g-1,by omega⟩
   have hb:(UInt8.ofNat n).toNat=n:=by rw [UInt8.toNat_ofNat']; omega
   rw [nil_append,WC,hb,if_pos h,Nat.mod_eq_of_lt h]
   have:(decide (0<n)||decide (i=0))=true:=by simpa using h0
   rw [this,Bool.and_true]; rfl
theorem GC : ∀ (f k n:Nat),n<128 ^ (f+1)->Bm (f+k) n=Bm f n
 | 0,k,n,h=>by
  rw [CE (by simpa using h),CE (by simpa using h)]
 | f+1,k,n,h=>by
  by_cases q:128<=n
  ·rw [show f+1+k=f+k+1 by omega,D9 q,D9 q]
   rw [pow_succ] at h
   rw [GC f k (n / 128) (Nat.div_lt_of_lt_mul (by omega))]
  ·rw [CE (by omega),CE (by omega)]
theorem p5 {n:Nat} (h:n<=2000000001):n<128 ^ (4+1):=by
 have:(128:Nat) ^ (4+1)=34359738368:=by decide
 omega
theorem Sd {n:Nat} (h:n<=2000000001):vbs n=(Bm 4 n).1++[UInt8.ofNat (Bm 4 n).2]:=by
 unfold vbs
 rw [show 10=4+6 from rfl,GC 4 6 n (p5 h)]
theorem FA {n:Nat} (h:n<=2000000001) (pre post:List UInt8):Ah (pre++(vbs n++post)) pre.length=some (n,(vbs n).length,true):=by
 have hp:=Hu 4 n
 unfold Ah
 rw [List.drop_left,Sd h,append_assoc,List.singleton_append,TX 4 5 n 0 0 post (p5 h) (by omega) (.inr rfl),Nat.mul_zero,Nat.pow_zero,Nat.mul_one,zero_add,dcT h,length_append,length_singleton,zero_add]
theorem Rf {n:Int}:unf (fol n)=n:=by
 unfold unf fol
 split<;>split<;>omega
theorem WI {s:List UInt8} {a n k:Nat} (h:Ah s a=some (n,k,true)) (hle:(n:Int)<=s.length-((a+k:Nat):Int)):AZ s a=((s.drop (a+k)).take n,((a+k:Nat):Int)+(n:Int),true):=by
 unfold AZ
 rw [h]
 exact if_pos ⟨rfl,hle⟩
theorem Oj {s:List UInt8} {a n k m j:Nat} (h:Ah s a=some (n,k,true)) (h2 : ¬(n:Int) % 8=2) (hu:Ah s (a+k)=some (m,j,true)):Ba s a=(((n:Int) / 8,(n:Int) % 8,unf (m:Int),[],()),(a:Int),((a+k+j:Nat):Int),AJ ((n:Int) / 8,(n:Int) % 8,unf (m:Int),[],())):=by
 unfold Ba
 rw [h]
 refine (if_neg (by simp [BK])).trans ((if_neg h2).trans ?_)
 show (((n:Int) / 8,(n:Int) % 8,unf (A9 (Ah s (a+k))),[],()),(a:Int),Az (a+k) (Ah s (a+k)),BK (Ah s (a+k))&&AJ ((n:Int) / 8,(n:Int) % 8,unf (A9 (Ah s (a+k))),[],()))=_
 rw [hu]; rfl
theorem Ok {s d:List UInt8} {a n k:Nat} {e:Int} (h:Ah s a=some (n,k,true)) (h2:(n:Int) % 8=2) (hu:AZ s (a+k)=(d,e,true)):Ba s a=(((n:Int) / 8,2,0,d,()),(a:Int),e,AJ ((n:Int) / 8,2,0,d,())):=by
 unfold Ba
 rw [h]
 refine (if_neg (by simp [BK])).trans ((if_pos h2).trans ?_)
 show (((n:Int) / 8,2,0,(AZ s (a+k)).1,()),(a:Int),(AZ s (a+k)).2.1,(AZ s (a+k)).2.2&&AJ ((n:Int) / 8,2,0,(AZ s (a+k)).1,()))=_
 rw [hu]; rfl
theorem Om {d:List UInt8} (h:d.length<=2000000001) (pre post:List UInt8):AZ (pre++(vbs d.length++(d++post))) pre.length=(d,((pre.length+(vbs d.length).length+d.length:Nat):Int),true):=by
 have e:pre++(vbs d.length++(d++post))=(pre++vbs d.length)++(d++post):=by rw [append_assoc]
 have el:pre.length+(vbs d.length).length=(pre++vbs d.length).length:=by rw [length_append]
 rw [WI (FA h pre _) (by simp only [length_append]; push_cast; omega),e,el,List.drop_left,List.take_left]
 simp
theorem Ub {f:WFd} (hf:D3 f=true) (pre post:List UInt8):Ba (pre++(fb1 f++post)) pre.length=(f,(pre.length:Int),((pre.length+(fb1 f).length:Nat):Int),true):=by
 obtain ⟨no,k,num,d,⟨⟩⟩:=f
 unfold D3 at hf
 rw [anE,dcE] at hf
 obtain ⟨h1,h2⟩:=hf
 obtain ⟨⟨a1,a2⟩,a3⟩:=D4 h1
 have a1:1<=no:=a1
 have a2:no<=30:=a2
 have h2:d.length<=100000:=h2
 have a3:(k=0/\BT num=true/\d=[])\/(k=2/\num=0):=a3
 have e1:fb1 (no,k,num,d,())=vbs (8*no+k).toNat++(if k=0 then vbs (fol num).toNat else vbs d.length++d):=rfl
 rw [e1,append_assoc]
 have ea : ∀ x:List UInt8,pre++(vbs (8*no+k).toNat++x)=(pre++vbs (8*no+k).toNat)++x:=fun x=>by rw [append_assoc]
 have el:pre.length+(vbs (8*no+k).toNat).length=(pre++vbs (8*no+k).toNat).length:=by rw [length_append]
 rcases a3 with ⟨c1,c2,c3⟩ | ⟨c1,c2⟩
 ·have hr:=DS (Gg c2)
  have hm:(fol num).toNat<=2000000001:=by omega
  have hu:=FA hm (pre++vbs (8*no+k).toNat) post
  rw [if_pos c1]
  rw [<-ea,<-el] at hu
  rw [Oj (FA (by omega) pre _) (by omega) hu,show (((fol num).toNat:Nat):Int)=fol num by omega,Rf,show (((8*no+k).toNat:Nat):Int) / 8=no by omega,show (((8*no+k).toNat:Nat):Int) % 8=k by omega,<-c3,h1,length_append,add_assoc]
 ·have hu:=Om (d:=d) (by omega) (pre++vbs (8*no+k).toNat) post
  rw [if_neg (by omega),append_assoc]
  rw [<-ea,<-el] at hu
  rw [Ok (FA (by omega) pre _) (by omega) hu,show (((8*no+k).toNat:Nat):Int) / 8=no by omega,<-c1,<-c2,h1]
  simp only [length_append,add_assoc]

theorem X5 (f:WFd):1<=(fb1 f).length:=by
 unfold fb1 vbs
 simp only [length_append,length_singleton]; omega
theorem Rt : ∀ (l:List WFd) (pre:List UInt8) (o:List WFd) (g:Nat),l.all D3=true->o.length+l.length<=40->(fbs l).length<=g->rdF (pre++fbs l) g pre.length o=some (o++l)
 | [],pre,o,g,_,_,_=>by
  rw [show fbs []=[] from rfl,append_nil,append_nil]
  cases g<;>rw [rdF,if_neg (lt_irrefl _)]
 | f::l,pre,o,g,hf,ho,hg=>by
  rw [List.all_cons,anE] at hf
  rw [CI,length_append] at hg
  rw [length_cons] at ho
  have h1:=X5 f
  obtain ⟨g,rfl⟩ : ∃ k,g=k+1:=⟨g-1,by omega⟩
  rw [CI]
  have ht:=Ub hf.1 pre (fbs l)
  have ih:=Rt l (pre++fb1 f) (o++[f]) g hf.2 (by rw [length_append,length_singleton]; omega) (by omega)
  rw [append_assoc,length_append,append_assoc,List.singleton_append] at ih
  rw [rdF,if_pos (by simp only [length_append]; omega),ht,if_pos ⟨rfl,by omega⟩]
  exact ih
theorem WP {l:List WFd} (h:l.Pairwise fun a b=>a.1<b.1):L0 (DD l)=true:=by
 unfold L0
 rw [all_eq_true]
 intro i hi
 have hi:=List.mem_range.1 hi
 unfold DD at hi ⊢
 rw [List.length_map] at hi
 unfold CG
 cases i with
 | zero=>simp
 | succ i=>
  have:=List.pairwise_iff_getElem.1 h i (i+1) (by omega) hi (by omega)
  simp [List.getD_eq_getElem?_getD,List.getElem?_map,gtE hi,gtE (show i<l.length by omega)]
  omega
theorem Uz {l:List WFd} (hf:l.all D3=true) (hl:l.length<=40) (hb:(fbs l).length<=400) (hr:l.Pairwise fun a b=>a.1<b.1):EA (fbs l)=some l:=by
 have h:=Rt l [] [] (fbs l).length hf (by simpa using hl) (Nat.le_refl _)
 unfold EA Ii CO
 rw [if_pos hb]
 rw [nil_append,nil_append] at h
 have h:rdF (fbs l) (fbs l).length 0 []=some l:=h
 rw [h]
 dsimp only
 rw [if_pos (WP hr)]

theorem Wr {x0:Int} {x1:List UInt8} {x3:Bool} {k:Int} (h : ¬Da x0 x1 x3 k=true):x3=Aw k/\(k≠2->x1=[])/\((k=2\/x3=true)->x0=0):=by
 unfold Da at h
 simp only [Bool.or_eq_true,anE,not_or,bne_iff_ne,ne_eq,beq_iff_eq,Decidable.not_not,not_and] at h
 exact ⟨h.1,h.2.1,h.2.2⟩
theorem Qb {x:An} {vs:List (Rose An)} {t:Rose Lab} (h:sfR (.node x vs) t=true) : ¬Da x.1 x.2.1 x.2.2.2.1 t.lab.1=true:=fun hb=>by
 rw [sfR,if_pos hb] at h; cases h
theorem Ry {v:Rose An} {y:Rose Lab} (hr:Aj y=true) (hf:fkB y=true) (hs:sfR v y=true) (hw:wfR v=true):A6 y v.lab.1 v.lab.2.2.1=some v:=by
 have hn:=Jv hr hf hs
 obtain ⟨⟨x0,x1,x2,x3,⟨⟩⟩,vs⟩:=v
 have hb:=Wr (Qb hs)
 have hk:y.lab.1=1\/y.lab.1=3:=by unfold fkB at hf; simpa using hf
 have h3:x3=false:=by have:=hb.1; rcases hk with h | h<;>rw [h] at this<;>exact this
 have h1:x1=[]:=hb.2.1 (by omega)
 subst h3
 subst h1
 rw [wfR,anE,Bool.false_or,isEmpty_iff] at hw
 obtain ⟨rfl,_⟩:=hw
 have hn0:=Qb hs
 rw [sfR,if_neg hn0] at hs
 have hn : -1000000000<=x0/\x0<=1000000000:=hn
 have hm:BT x0=true:=by unfold BT; simpa only [anE,dcE] using hn
 unfold A6
 rcases hk with h | h
 ·exact if_pos ⟨hm,.inl h⟩
 ·rw [if_neg (by omega),if_pos h] at hs
  exact if_pos ⟨hm,.inr (of_decide_eq_true hs)⟩
theorem V5 (y:Rose Lab) (v:Rose An):1<=(itm y (A7 v y)).length:=by
 unfold itm
 split
 ·rename_i h
  rw [RO h]
  unfold vbs
  simp only [length_append,length_singleton]; omega
 ·unfold vbs
  simp only [length_append,length_singleton]; omega
theorem P1 {y:Rose Lab} (hr:Aj y=true) {D:List UInt8->Option (Rose An)} : ∀ (vs:List (Rose An)) (pre:List UInt8) (g:Nat),(∀ v∈vs,v.lab.2.2.1=0/\sfR v y=true/\wfR v=true/\(A7 v y).length<=400/\(fkB y=false->D (A7 v y)=some v))->(CB y vs).length<=g->BE (fkB y) (fun n=>A6 y n 0) D (pre++CB y vs) g pre.length=some vs
 | [],pre,g,_,_=>by
  rw [CB,append_nil]
  cases g with
  | zero=>rw [IA,if_neg (lt_irrefl _)]
  | succ g=>rw [E7,if_neg (lt_irrefl _)]
 | v::vs,pre,g,hv,hg=>by
  obtain ⟨a0,a1,a2,a3,a4⟩:=hv v mem_cons_self
  have hpos:=V5 y v
  rw [CB,length_append] at hg
  obtain ⟨g,rfl⟩ : ∃ k,g=k+1:=⟨g-1,by omega⟩
  have ih:=P1 hr vs (pre++itm y (A7 v y)) g (fun w hw=>hv w (mem_cons_of_mem _ hw)) (by omega) (D:=D)
  rw [append_assoc,length_append] at ih
  rw [CB,E7,if_pos (by simp only [length_append]; omega)]
  rcases Bool.eq_false_or_eq_true (fkB y) with hf | hf
  ·have hn:=Jv hr hf a1
   have hfo:=DS hn
   have hm:(fol v.lab.1).toNat<=2000000001:=by omega
   have ht:=FA hm pre (CB y vs)
   have hd:=Ry hr hf a1 a2
   rw [a0] at hd
   rw [HE hf] at ih ⊢
   rw [hf] at ih ⊢
   rw [ht]
   have e1:unf (A9 (some ((fol v.lab.1).toNat,(vbs (fol v.lab.1).toNat).length,true)))=v.lab.1:=by
    show unf (((fol v.lab.1).toNat:Nat):Int)=_
    rw [show (((fol v.lab.1).toNat:Nat):Int)=fol v.lab.1 by omega,Rf]
   dsimp only
   rw [e1,hd]
   dsimp only
   refine (if_pos rfl).trans ?_
   have e2:(Az pre.length (some ((fol v.lab.1).toNat,(vbs (fol v.lab.1).toNat).length,true))).toNat=pre.length+(vbs (fol v.lab.1).toNat).length:=rfl
   rw [e2,ih]; rfl
  ·have ht:=Om (d:=A7 v y) (by omega) pre (CB y vs)
   rw [HF hf,append_assoc] at ih ⊢
   rw [hf] at ih ⊢
   dsimp only
   rw [ht]
   dsimp only
   rw [a4 hf]
   dsimp only
   rw [ntN,show pre.length+(vbs (A7 v y).length).length+(A7 v y).length=pre.length+(vbs (A7 v y).length++A7 v y).length by rw [length_append,add_assoc],ih]; rfl
theorem HU (F:Rose An->WFd) (hF : ∀ u,(F u).1=u.lab.2.2.1) : ∀ (ks:List (Rose Lab)) (us:List (Rose An)) (fs:List WFd),ks.Pairwise KR->BD ks us=true->(∀ p∈ks,fs.find? (fun f=>f.1==p.lab.2.2.1)=(us.map F).find? (fun f=>f.1==p.lab.2.2.1))->(∀ p∈ks,∀ u∈us,u.lab.2.2.1=p.lab.2.2.1->Fk p (F u)=some u)->Bg ks fs=some us
 | [],us,fs,_,hm,_,_=>by
  rw [BD,isEmpty_iff] at hm
  subst hm
  rw [Bg]
 | p::ks,[],fs,hpw,hm,hfd,hd=>by
  rw [BD,anE] at hm
  rw [List.pairwise_cons] at hpw
  rw [BI,hfd p mem_cons_self]
  show (if p.lab.2.2.2.1=true then none else Bg ks fs)=_
  rw [if_neg (by simpa using hm.1)]
  exact HU F hF ks [] fs hpw.2 hm.2 (fun q hq=>hfd q (mem_cons_of_mem _ hq)) (fun q hq u hu=>by cases hu)
 | p::ks,u::us,fs,hpw,hm,hfd,hd=>by
  have hpw':=hpw
  rw [List.pairwise_cons] at hpw
  rw [BI,hfd p mem_cons_self]
  rw [BD] at hm
  by_cases q:u.lab.2.2.1=p.lab.2.2.1
  ·rw [if_pos q,anE] at hm
   rw [List.map_cons,List.find?_cons_of_pos (by rw [hF,q]; exact beq_self_eq_true _)]
   dsimp only
   rw [hd p mem_cons_self u mem_cons_self q]
   dsimp only
   rw [HU F hF ks us fs hpw.2 hm.2 (fun r hr=>by
    have h1:=hpw.1 r hr
    unfold KR at h1
    rw [hfd r (mem_cons_of_mem _ hr),List.map_cons,List.find?_cons_of_neg (by rw [hF]; simp; omega)]) (fun r hr w hw=>hd r (mem_cons_of_mem _ hr) w (mem_cons_of_mem _ hw))]
   rfl
  ·rw [if_neg q,anE] at hm
   have hi:=(Do ks hpw.2 (u::us)).1 hm.2
   have hno:((u::us).map F).find? (fun f=>f.1==p.lab.2.2.1)=none:=by
    rw [List.find?_eq_none]
    intro f hf
    obtain ⟨w,hw,rfl⟩:=List.mem_map.1 hf
    obtain ⟨y,hy,e⟩:=DR.1 (hi.1.1 w hw).1
    have h1:=hpw.1 y hy
    unfold KR at h1
    rw [hF]; simp; omega
   rw [hno]
   show (if p.lab.2.2.2.1=true then none else Bg ks fs)=_
   rw [if_neg (by simpa using hm.1)]
   exact HU F hF ks (u::us) fs hpw.2 hm.2 (fun r hr=>hfd r (mem_cons_of_mem _ hr)) (fun r hr w hw=>hd r (mem_cons_of_mem _ hr) w hw)
theorem Io : ∀ (ks:List (Rose Lab)) (us:List (Rose An)),BD ks us=true->us.length<=ks.length
 | [],us,h=>by rw [BD,isEmpty_iff] at h; rw [h]; exact Nat.le_refl _
 | p::ks,[],_=>zero_le _
 | p::ks,u::us,h=>by
  rw [BD] at h
  split at h
  ·rw [anE] at h
   have:=Io ks us h.2
   simp only [length_cons]; omega
  ·rw [anE] at h
   have:=Io ks (u::us) h.2
   simp only [length_cons] at this ⊢; omega
theorem Pq {y:Rose Lab} {v:Rose An} : ∀ {vs:List (Rose An)},v∈vs->(A7 v y).length<=(CB y vs).length
 | u::vs,h=>by
  rw [CB,length_append]
  rcases mem_cons.1 h with rfl | h
  ·have:(A7 v y).length<=(itm y (A7 v y)).length:=by
    unfold itm; split
    ·exact Nat.le_refl _
    ·rw [length_append]; omega
   omega
  ·have:=Pq h (y:=y); omega
theorem Po {ks:List (Rose Lab)} {v:Rose An} : ∀ {vs:List (Rose An)},v∈vs->(A7 v (byR v.lab.2.2.1 ks)).length<=(FS ks vs).length
 | u::vs,h=>by
  rw [FS,length_append,length_append]
  rcases mem_cons.1 h with rfl | h
  ·have:(A7 v (byR v.lab.2.2.1 ks)).length<=(itm (byR v.lab.2.2.1 ks) (A7 v (byR v.lab.2.2.1 ks))).length:=by
    unfold itm; split
    ·exact Nat.le_refl _
    ·rw [length_append]; omega
   omega
  ·have:=Po h (ks:=ks); omega
theorem QF (ks:List (Rose Lab)) (u:Rose An):(Di ks u).1=u.lab.2.2.1:=by unfold Di; split<;>rfl
mutual
theorem RV : ∀ (v:Rose An) (z:Rose Lab),Aj z=true->fkB z=false->Ao z<=40->vcR v<=1000->sfR v z=true->wfR v=true->(A7 v z).length<=400->AO z (A7 v z) v.lab.2.2.1=some v
 | .node x vs,z,hr,hf,hcn,hvc,hs,hw,hlen=>by
  have hb:=Wr (Qb hs)
  rw [vcR] at hvc
  have hck:=Be z
  rw [wfR,anE] at hw
  obtain ⟨x0,x1,x2,x3,⟨⟩⟩:=x
  have hb:x3=Aw z.lab.1/\(z.lab.1≠2->x1=[])/\((z.lab.1=2\/x3=true)->x0=0):=hb
  have hw1:(x3||vs.isEmpty)=true:=hw.1
  have hw2:=hw.2
  rw [MJ,all_eq_true] at hw2
  by_cases h2:z.lab.1=2
  ·have h3:x3=false:=by rw [hb.1,h2]; rfl
   have h0:=hb.2.2 (.inl h2)
   subst h3
   subst h0
   rw [Bool.false_or,isEmpty_iff] at hw1
   subst hw1
   rw [KH h2]
   show AO z x1 x2=_
   rw [DT h2,if_pos (Rl h2 hs)]
  ·have hk:=JA hr h2 (by rw [hf]; simp)
   have h3:x3=true:=by rw [hb.1]; rcases hk with h | h<;>rw [h]<;>rfl
   have h0:=hb.2.2 (.inr h3)
   have h1:=hb.2.1 h2
   subst h3
   subst h0
   subst h1
   rcases hk with h4 | h5
   ·obtain ⟨g1,g2⟩:=CN hr h4
    obtain ⟨y,hy⟩:=List.length_eq_one_iff.1 g1
    have hsl:=Jw h4 hs
    rw [KI h4] at hlen ⊢
    rw [hy] at hsl hlen g2 hck ⊢
    have e0:hd0 [y]=y:=rfl
    rw [e0] at hsl hlen ⊢
    rw [Ak,Ak] at hck
    have hry:Aj y=true:=by simpa using g2
    rw [Gf,all_eq_true] at hsl
    rw [DV h4,hy,Em]
    have hI:=P1 hry (D:=fun d=>AO y d 0) vs [] (CB y vs).length (fun v hv=>by
     have a:=hsl v hv
     rw [anE,beq_iff_eq] at a
     have hm:=Pq hv (y:=y)
     have hvm:=GD hv
     refine ⟨a.1,a.2,hw2 v hv,by omega,fun hfy=>?_⟩
     have:=Lb vs v hv y hry hfy (by omega) (by omega) a.2 (hw2 v hv) (by omega)
     rw [a.1] at this
     exact this) (Nat.le_refl _)
    rw [nil_append] at hI
    have hI:BE (fkB y) (fun n=>A6 y n 0) (fun d=>AO y d 0) (CB y vs) (CB y vs).length 0=some vs:=hI
    rw [hI]; rfl
   ·have hkp:=HB hr h5
    have hr5:=C0 hr (by omega)
    obtain ⟨m1,m2⟩:=JO h5 hs
    have hmm:BD z.kids vs=true:=by rw [Ip hkp,m1,m2]; rfl
    have hml:=Io _ _ hmm
    have hkl:=Bz z.kids
    have hvr:=((Do z.kids hkp vs).1 hmm).1.2
    obtain ⟨b1,b2⟩:=N1 hr5 vs (by omega) (Aaj m1)
    rw [N4 h5] at hlen ⊢
    have hpw:(vs.map (Di z.kids)).Pairwise fun a b=>a.1<b.1:=by
     rw [List.pairwise_map]
     exact hvr.imp fun {a b} h=>by rw [QF,QF]; exact h
    have hris:=Uz b1 (by rw [List.length_map]; omega) (by rw [b2]; exact hlen) hpw
    rw [b2] at hris
    rw [EJ (by omega) (by omega),hris]
    dsimp only
    rw [HU (Di z.kids) (QF z.kids) z.kids vs _ hkp hmm (fun p _=>rfl) (fun p hp u hu e=>by
     obtain ⟨c1,c2⟩:=Jx m1 u hu
     have hby:=Lo hkp hp e.symm
     rw [hby] at c2
     have hem:=Po hu (ks:=z.kids)
     rw [hby] at hem
     have hvm:=GD hu
     have hpc:=BB hp
     have hrp:=Ca hr5 hp
     have hfo:Di z.kids u=if fkB p=true then (u.lab.2.2.1,0,u.lab.1,[],()) else (u.lab.2.2.1,2,0,A7 u p,()):=by unfold Di; rw [hby]
     rcases Bool.eq_false_or_eq_true (fkB p) with hfp | hfp
     ·have hfo:=hfo.trans (if_pos hfp)
      rw [hfo]
      unfold Fk
      refine (if_pos ?_).trans ((if_pos rfl).trans (Ry hrp hfp c2 (hw2 u hu)))
      rw [hfp]; rfl
     ·have hfo:=hfo.trans (if_neg (by rw [hfp]; simp))
      rw [hfo]
      unfold Fk
      refine (if_pos ?_).trans ((if_neg ?_).trans (Lb vs u hu p hrp hfp (by omega) (by omega) c2 (hw2 u hu) (by omega)))
      ·rw [hfp]; rfl
      ·show ¬((2:Int)==0)=true
       decide)]
    rfl
theorem Lb : ∀ (vs:List (Rose An)) (v:Rose An),v∈vs->∀ (z:Rose Lab),Aj z=true->fkB z=false->Ao z<=40->vcR v<=1000->sfR v z=true->wfR v=true->(A7 v z).length<=400->AO z (A7 v z) v.lab.2.2.1=some v
 | [],v,hv=>by cases hv
 | u::vs,v,hv=>by
  by_cases e:v∈vs
  ·exact Lb vs v e
  ·have:v=u:=by rcases mem_cons.1 hv with h | h; exact h; exact absurd h e
   rw [this]
   exact RV u
end

theorem Od : ∀ (f:Nat) (l:List UInt8) (i acc:Nat) {x k:Nat} {ok:Bool},tv f l i acc=some (x,k,ok)->∃ m,x=acc+m*2 ^ (7*i)/\i<k/\m<128 ^ (k-i)
 | 0,l,i,acc,x,k,ok,h=>by cases l<;>cases h
 | f+1,[],i,acc,x,k,ok,h=>by cases h
 | f+1,b::l,i,acc,x,k,ok,h=>by
  rw [WC] at h
  split at h
  ·cases h
   refine ⟨b.toNat % 128,rfl,by omega,?_⟩
   rw [show i+1-i=1 by omega,Nat.pow_one]; omega
  ·obtain ⟨m,h1,h2,h3⟩:=Od f l (i+1) _ h
   refine ⟨b.toNat % 128+128*m,?_,by omega,?_⟩
   ·have e1:2 ^ (7*(i+1))=128*2 ^ (7*i):=by rw [Nat.mul_add,Nat.pow_add]; omega
    rw [h1,e1,Nat.add_mul,add_assoc]
    congr 2
    rw [Nat.mul_comm 128 m,Nat.mul_assoc]
   ·have e2:k-i=k-(i+1)+1:=by omega
    rw [e2,pow_succ]
    have:b.toNat % 128<128:=by omega
    omega
theorem YD {n k:Nat} (h:n<128 ^ (k+1)) (hk:k<=10):(vbs n).length<=k+1:=by
 have:=Hu k n
 unfold vbs
 rw [show 10=k+(10-k) by omega,GC k (10-k) n h,length_append,length_singleton]; omega
theorem Ho {s:List UInt8} {a n k:Nat} {ok:Bool} (h:Ah s a=some (n,k,ok)):(vbs n).length<=k:=by
 obtain ⟨m,h1,h2,h3⟩:=Od _ _ _ _ h
 have h4:=(DY h).2.2.2
 have h4:k<=5:=h4
 rw [Nat.mul_zero,Nat.pow_zero,Nat.mul_one,zero_add] at h1
 subst h1
 obtain ⟨k,rfl⟩ : ∃ j,k=j+1:=⟨k-1,by omega⟩
 exact YD (by simpa using h3) (by omega)
theorem LH : ∀ (f a b:Nat),a<=b->(Bm f a).1.length<=(Bm f b).1.length
 | 0,a,b,_=>by rw [Bm,Bm]; exact Nat.le_refl _
 | f+1,a,b,h=>by
  by_cases q:128<=a
  ·rw [D9 q,D9 (by omega)]
   have:=LH f (a / 128) (b / 128) (Nat.div_le_div_right h)
   simp only [length_cons]; omega
  ·rw [CE (by omega)]; exact zero_le _
theorem NW {a b:Nat} (h:a<=b):(vbs a).length<=(vbs b).length:=by
 have:=LH 10 a b h
 unfold vbs
 simp only [length_append,length_singleton]; omega
theorem RJ {n:Int} (h:0<=n):fol (unf n)=n:=by
 unfold unf fol
 split<;>split<;>omega
theorem Ol {s d:List UInt8} {a:Nat} {e:Int} (h:AZ s a=(d,e,true)):(a:Int)+(vbs d.length).length+d.length<=e:=by
 unfold AZ at h
 dsimp only at h
 split at h
 ·rename_i hc
  cases ht:Ah s a with
  | none=>rw [ht] at hc; cases hc.1
  | some x=>
   obtain ⟨n,k,ok⟩:=x
   have hl:=Ho ht
   have hfa:=(DY ht).2.2.1
   have hfa:a+k<=s.length:=hfa
   rw [ht] at hc h
   have hc2:(n:Int)<=s.length-((a+k:Nat):Int):=hc.2
   have h:((s.drop (a+k)).take n,((a+k:Nat):Int)+(n:Int),true)=(d,e,true):=h
   simp only [Prod.mk.injEq,and_true] at h
   obtain ⟨rfl,rfl⟩:=h
   have e1:((s.drop (a+k)).take n).length=n:=by rw [List.length_take,List.length_drop]; omega
   rw [e1]; push_cast; omega
 ·simp only [Prod.mk.injEq] at h
  exact absurd h.2.2 (by simp)
theorem Ua {s:List UInt8} {a:Nat} (h:(Ba s a).2.2.2=true):(a:Int)+(fb1 (Ba s a).1).length<=(Ba s a).2.2.1:=by
 cases ht:Ah s a with
 | none=>
  unfold Ba at h
  rw [ht] at h
  cases h
 | some x=>
  obtain ⟨n,k,ok⟩:=x
  cases ok with
  | false=>
   unfold Ba at h
   rw [ht] at h
   cases h
  | true=>
   have hl:=Ho ht
   by_cases q:(n:Int) % 8=2
   ·cases hu:AZ s (a+k) with
    | mk d y=>
     obtain ⟨e,ok⟩:=y
     cases ok with
     | false=>
      unfold Ba at h
      rw [ht] at h
      have h:(if (true:Bool)=false then (((0,0,0,[],()),0,0,false):WFd×Int×Int×Bool) else if (n:Int) % 8=2 then (((n:Int) / 8,2,0,(AZ s (a+k)).1,()),(a:Int),(AZ s (a+k)).2.1,(AZ s (a+k)).2.2&&AJ ((n:Int) / 8,2,0,(AZ s (a+k)).1,())) else _).2.2.2=true:=h
      rw [if_neg (by simp),if_pos q,hu] at h
      cases h
     | true=>
      have hb:=Ol hu
      rw [Ok ht q hu]
      have e1:fb1 ((n:Int) / 8,2,0,d,())=vbs (8*((n:Int) / 8)+2).toNat++(vbs d.length++d):=rfl
      show (a:Int)+(fb1 ((n:Int) / 8,2,0,d,())).length<=e
      rw [e1,show (8*((n:Int) / 8)+2).toNat=n by omega,length_append,length_append]
      push_cast at hb ⊢
      omega
   ·cases hu:Ah s (a+k) with
    | none=>
     unfold Ba at h
     rw [ht] at h
     have h:(if (true:Bool)=false then (((0,0,0,[],()),0,0,false):WFd×Int×Int×Bool) else if (n:Int) % 8=2 then _ else (((n:Int) / 8,(n:Int) % 8,unf (A9 (Ah s (a+k))),[],()),(a:Int),Az (a+k) (Ah s (a+k)),BK (Ah s (a+k))&&AJ ((n:Int) / 8,(n:Int) % 8,unf (A9 (Ah s (a+k))),[],()))).2.2.2=true:=h
     rw [if_neg (by simp),if_neg q,hu] at h
     cases h
    | some y=>
     obtain ⟨m,j,ok⟩:=y
     cases ok with
     | false=>
      unfold Ba at h
      rw [ht] at h
      have h:(if (true:Bool)=false then (((0,0,0,[],()),0,0,false):WFd×Int×Int×Bool) else if (n:Int) % 8=2 then _ else (((n:Int) / 8,(n:Int) % 8,unf (A9 (Ah s (a+k))),[],()),(a:Int),Az (a+k) (Ah s (a+k)),BK (Ah s (a+k))&&AJ ((n:Int) / 8,(n:Int) % 8,unf (A9 (Ah s (a+k))),[],()))).2.2.2=true:=h
      rw [if_neg (by simp),if_neg q,hu] at h
      cases h
     | true=>
      have hm:=Ho hu
      rw [Oj ht q hu] at h ⊢
      have h:AJ ((n:Int) / 8,(n:Int) % 8,unf (m:Int),[],())=true:=h
      have hk:(n:Int) % 8=0:=by
       obtain ⟨_,c⟩:=D4 h
       rcases c with ⟨c,_⟩ | ⟨c,_⟩
       ·exact c
       ·exact absurd c q
      show (a:Int)+(fb1 ((n:Int) / 8,(n:Int) % 8,unf (m:Int),[],())).length<=((a+k+j:Nat):Int)
      have e1:fb1 ((n:Int) / 8,(n:Int) % 8,unf (m:Int),[],())=vbs (8*((n:Int) / 8)+(n:Int) % 8).toNat++(if (n:Int) % 8=0 then vbs (fol (unf (m:Int))).toNat else vbs 0++[]):=rfl
      rw [e1,if_pos hk,RJ (by omega),show (8*((n:Int) / 8)+(n:Int) % 8).toNat=n by omega,ntN,length_append]
      push_cast
      omega
theorem Rs {s:List UInt8} : ∀ (g a:Nat) (o l:List WFd),a<=s.length->rdF s g a o=some l->∃ l',l=o++l'/\(fbs l').length<=s.length-a/\∀ f∈l',AJ f=true
 | 0,a,o,l,ha,h=>by
  rw [rdF] at h
  split at h
  ·cases h
  ·cases h; exact ⟨[],by simp,zero_le _,fun f hf=>by cases hf⟩
 | g+1,a,o,l,ha,h=>by
  rw [rdF] at h
  split at h
  ·split at h
   ·rename_i hc
    have ht:=Ua hc.1
    have hk:=JL hc.1
    obtain ⟨l',h1,h2,h3⟩:=Rs g _ _ l (by omega) h
    refine ⟨(Ba s a).1::l',by rw [h1,append_assoc]; rfl,?_,fun f hf=>?_⟩
    ·rw [CI,length_append]
     omega
    ·rcases mem_cons.1 hf with rfl | hf
     ·exact hk.1
     ·exact h3 f hf
   ·cases h
  ·cases h; exact ⟨[],by simp,zero_le _,fun f hf=>by cases hf⟩
theorem Uy {s:List UInt8} {l:List WFd} (h:EA s=some l):(fbs l).length<=s.length/\∀ f∈l,AJ f=true:=by
 unfold EA Ii at h
 by_cases q:s.length<=400
 ·rw [if_pos q] at h
  cases hr:CO s with
  | none=>rw [hr] at h; cases h
  | some k=>
   rw [hr] at h
   dsimp only at h
   split at h
   ·cases h
    obtain ⟨l',h1,h2,h3⟩:=Rs _ _ _ _ (zero_le _) hr
    rw [nil_append] at h1
    subst h1
    exact ⟨h2,h3⟩
   ·cases h
 ·rw [if_neg q] at h; cases h
theorem Le {z:Rose Lab} {n no:Int} {v:Rose An} (h:A6 z n no=some v):v.lab.1=n:=by
 unfold A6 at h
 split at h
 ·cases h; rfl
 ·cases h
theorem Lg {y:Rose Lab} {num:Bool} (hnum:fkB y=num) {D:List UInt8->Option (Rose An)} {s:List UInt8} (hD:num=false->∀ d v,D d=some v->(A7 v y).length<=d.length) : ∀ (f a:Nat) (vs:List (Rose An)),a<=s.length->BE num (fun n=>A6 y n 0) D s f a=some vs->(CB y vs).length+a<=s.length
 | 0,a,vs,ha,h=>by
  rw [IA] at h
  split at h
  ·cases h
  ·cases h; rw [CB,List.length_nil]; omega
 | f+1,a,vs,ha,h=>by
  rw [E7] at h
  split at h
  ·cases num with
   | true=>
    dsimp only at h
    split at h
    ·rename_i w hw
     split at h
     ·rename_i hc
      obtain ⟨us,hu,rfl⟩:=map_eq_some_iff.1 h
      cases ht:Ah s a with
      | none=>rw [ht] at hc; cases hc
      | some x=>
       obtain ⟨n,k,ok⟩:=x
       have hl:=Ho ht
       have hfa:a+k<=s.length:=(DY ht).2.2.1
       rw [ht] at hw hu
       have hv:w.lab.1=unf (n:Int):=Le hw
       have ih:(CB y us).length+(a+k)<=s.length:=Lg hnum hD f (a+k) us hfa hu
       rw [CB,length_append,HE hnum,hv,RJ (by omega),ntN]
       omega
     ·cases h
    ·cases h
   | false=>
    dsimp only at h
    split at h
    ·rename_i hc
     split at h
     ·rename_i w hw
      obtain ⟨us,hu,rfl⟩:=map_eq_some_iff.1 h
      have he:=JM hc
      have hb:=Ol (s:=s) (a:=a) (d:=(AZ s a).1) (e:=(AZ s a).2.1) (Prod.ext rfl (Prod.ext rfl hc))
      have ih:=Lg hnum hD f _ us (by omega) hu
      have hd:=hD rfl _ _ hw
      have hm:=NW hd
      rw [CB,length_append,HF hnum,length_append]
      omega
     ·cases h
    ·cases h
  ·cases h; rw [CB,List.length_nil]; omega
theorem Jb {n:Int} : ∀ (ks:List (Rose Lab)) (fs:List WFd),(∀ q∈ks,q.lab.2.2.1≠n)->Bg ks (fs.filter fun f=>f.1 != n)=Bg ks fs
 | [],fs,_=>by rw [Bg,Bg]
 | p::ks,fs,h=>by
  have hp:=h p mem_cons_self
  rw [BI,BI,Jb ks fs (fun q hq=>h q (mem_cons_of_mem _ hq)),List.find?_filter]
  have e:(fun f:WFd=>decide ((f.1 != n)=true/\(f.1==p.lab.2.2.1)=true))=fun f:WFd=>f.1==p.lab.2.2.1:=by
   funext f
   by_cases q:f.1=p.lab.2.2.1
   ·rw [q]; simp [hp]
   ·simp [q]
  rw [e]
theorem KF {n:Int} {f:WFd} : ∀ {fs:List WFd},f∈fs->f.1=n->(fb1 f).length+(fbs (fs.filter fun g=>g.1 != n)).length<=(fbs fs).length
 | g::fs,hf,hn=>by
  have hle:(fbs (fs.filter fun g=>g.1 != n)).length<=(fbs fs).length:=by
   clear hf
   induction fs with
   | nil=>exact Nat.le_refl _
   | cons u us ih=>
    rw [List.filter_cons]
    split
    ·rw [CI,CI,length_append,length_append]; omega
    ·rw [CI,length_append]; omega
  rw [CI,length_append]
  by_cases q:g.1=n
  ·rw [List.filter_cons_of_neg (by simp [q])]
   rcases mem_cons.1 hf with rfl | hf
   ·omega
   ·have:=KF hf hn
    omega
  ·rcases mem_cons.1 hf with rfl | hf
   ·exact absurd hn q
   ·have:=KF hf hn
    rw [List.filter_cons_of_pos (by simp [q]),CI,length_append]
    omega
theorem Wc {p:Rose Lab} {f:WFd} {w:Rose An} (hf:AJ f=true) (hD:fkB p=false->∀ d no v,AO p d no=some v->(A7 v p).length<=d.length) (h:Fk p f=some w):(vbs (8*w.lab.2.2.1+(if fkB p=true then 0 else 2)).toNat++itm p (A7 w p)).length<=(fb1 f).length:=by
 have hno:=Gt h
 obtain ⟨f1,f2,f3,f4,⟨⟩⟩:=f
 have hno:w.lab.2.2.1=f1:=hno
 unfold Fk at h
 split at h
 ·rename_i hk
  have hk:(f2==0)=fkB p:=hk
  rcases Bool.eq_false_or_eq_true (fkB p) with hp | hp
  ·rw [hp,beq_iff_eq] at hk
   subst hk
   have h:=(if_pos rfl).symm.trans h
   have hv:w.lab.1=f3:=Le h
   rw [HE hp,hv,hno,if_pos hp]
   exact Nat.le_refl _
  ·have h0:f2≠0:=by rw [hp] at hk; simpa using hk
   have h2:f2=2:=by
    obtain ⟨_,c⟩:=D4 hf
    rcases c with ⟨c,_⟩ | ⟨c,_⟩
    ·exact absurd c h0
    ·exact c
   subst h2
   have h:AO p f4 f1=some w:=h
   have hd:=hD hp _ _ _ h
   have hm:=NW hd
   rw [HF hp,hno,if_neg (by rw [hp]; simp)]
   show _<=(vbs (8*f1+2).toNat++(vbs f4.length++f4)).length
   simp only [length_append]
   omega
 ·cases h
mutual
theorem NE : ∀ (z:Rose Lab),Aj z=true->fkB z=false->∀ (s:List UInt8) (no:Int) (v:Rose An),AO z s no=some v->(A7 v z).length<=s.length
 | .node x ks,hr,hf,s,no,v,h=>by
  have hkd:=JA (t:=.node x ks) hr
  by_cases h2:x.1=2
  ·rw [AO,if_pos h2] at h
   split at h
   ·cases h
    rw [KH (z:=.node x ks) h2]
    exact Nat.le_refl _
   ·cases h
  ·have hk:=hkd h2 (by rw [hf]; simp)
   have hk:x.1=4\/x.1=5:=hk
   by_cases h4:x.1=4
   ·rw [AO,if_neg h2,if_pos h4] at h
    obtain ⟨vs,hv,rfl⟩:=map_eq_some_iff.1 h
    have hl:=CN hr h4
    rw [KI (z:=.node x ks) h4]
    exact VZ ks hl.2 s vs hv
   ·have h5:x.1=5:=by omega
    rw [AO,if_neg h2,if_neg h4] at h
    split at h
    ·rename_i fs hfs
     obtain ⟨vs,hv,rfl⟩:=map_eq_some_iff.1 h
     have h5':(Rose.node x ks:Rose Lab).lab.1=5:=h5
     have hpw:ks.Pairwise KR:=HB (z:=.node x ks) hr h5'
     obtain ⟨b1,b2⟩:=Uy hfs
     rw [N4 h5']
     exact Nat.le_trans (La ks (C0 (z:=.node x ks) hr (by omega)) hpw ks (fun p hp=>Lo hpw hp rfl) fs b2 vs hv) b1
    ·cases h
theorem VZ : ∀ (ks:List (Rose Lab)),ks.all Aj=true->∀ (s:List UInt8) (vs:List (Rose An)),Em ks s=some vs->(CB (hd0 ks) vs).length<=s.length
 | [],_,s,vs,h=>by rw [Em] at h; cases h
 | z::ks,hr,s,vs,h=>by
  rw [List.all_cons,anE] at hr
  rw [Em] at h
  exact Lg rfl (fun hf d v hv=>NE z hr.1 hf d 0 v hv) _ 0 vs (zero_le _) h
theorem La : ∀ (ks:List (Rose Lab)),A8 5 ks=true->ks.Pairwise KR->∀ (K:List (Rose Lab)),(∀ p∈ks,byR p.lab.2.2.1 K=p)->∀ (fs:List WFd),(∀ f∈fs,AJ f=true)->∀ (vs:List (Rose An)),Bg ks fs=some vs->(FS K vs).length<=(fbs fs).length
 | [],_,_,K,_,fs,_,vs,h=>by
  rw [Bg] at h; cases h
  rw [FS]; exact zero_le _
 | p::ks,hr,hpw,K,hK,fs,hfs,vs,h=>by
  rw [A8,anE,anE] at hr
  rw [List.pairwise_cons] at hpw
  rw [BI] at h
  have hK' : ∀ q∈ks,byR q.lab.2.2.1 K=q:=fun q hq=>hK q (mem_cons_of_mem _ hq)
  split at h
  ·split at h
   ·cases h
   ·exact La ks hr.2 hpw.2 K hK' fs hfs vs h
  ·rename_i f hf
   have hfn:=List.find?_some hf
   have hfn:f.1=p.lab.2.2.1:=by simpa using hfn
   have hfm:=List.mem_of_find?_eq_some hf
   split at h
   ·rename_i w hw
    obtain ⟨us,hu,rfl⟩:=map_eq_some_iff.1 h
    rw [<-Jb ks fs (n:=p.lab.2.2.1) (fun q hq e=>by
     have:=hpw.1 q hq
     unfold KR at this
     omega)] at hu
    have ih:=La ks hr.2 hpw.2 K hK' _ (fun g hg=>hfs g (List.mem_filter.1 hg).1) us hu
    have hd:=KF hfm hfn
    have hwn:=Gt hw
    have hby:byR w.lab.2.2.1 K=p:=by rw [hwn,hfn]; exact hK p mem_cons_self
    have h1:=Wc (hfs f hfm) (fun hp d no v hv=>NE p hr.1.2 hp d no v hv) hw
    rw [FS,hby,length_append]
    omega
   ·cases h
end

mutual
theorem Yv : ∀ z:Rose Lab,lfR z=true->wfR (cv z)=true
 | .node x ks,h=>by
  rw [lfR,anE,anE] at h
  obtain ⟨⟨h1,h2⟩,h3⟩:=h
  rw [cv,wfR,TD ks h3,Bool.and_true]
  obtain ⟨a,b,c,m,e,⟨⟩⟩:=x
  show (m||(cvs ks).isEmpty)=true
  cases m
  ·have h2:(a==1)=true:=h2
   rw [beq_iff_eq] at h2
   subst h2
   have h1:ks.isEmpty=true:=h1
   rw [isEmpty_iff] at h1
   subst h1
   rw [cvs]; rfl
  ·rfl
theorem TD : ∀ ks:List (Rose Lab),lfL ks=true->wfL (cvs ks)=true
 | [],_=>by rw [cvs,wfL]
 | z::ks,h=>by
  rw [lfL,anE] at h
  rw [cvs,wfL,Yv z h.1,TD ks h.2]; rfl
end
theorem Ace {v:List Nd} (h0:0<v.length) (H:Ord (tys v)):v[0].2.2.2.1 = -1:=by
 have h:=H.zero
 unfold AY tys at h
 rw [List.getElem?_map,gtE h0] at h
 exact Option.some.inj h
theorem Aan {v:List Nd} {l:List Ty} (hf:Df v l=true):wfR (vtr v 0)=true/\Al (vtr v 0) (-1) 0=v/\(vtr v 0).lab.2.2.1=0/\vcR (vtr v 0)=v.length:=by
 have hf':=hf
 obtain ⟨hk,h0,h40,H,hsf⟩:=EF hf
 have hn:noN v 0=some 0:=by
  unfold Df E3 at hf'
  simp only [anE] at hf'
  exact ((Gh h0).1 hf'.2.1.1).2
 have e:=H.end' (by rw [Bh]; exact h0)
 have hw:wfR (vtr v 0)=true:=Yv _ (ZB v _ 0 h0)
 have hfl:Al (vtr v 0) (-1) 0=v:=by
  have:=Nz v.length 0 (by omega) h0
  rw [Ace h0 H,e.1,Bh] at this
  refine this.trans ?_
  unfold Fn
  rw [drop_zero,Nat.sub_zero,take_length]
 refine ⟨hw,hfl,?_,?_⟩
 ·have:=Kz (v:=v) h0
  rw [FI h0] at hn
  show (cv (kf (tys v) 0).1).lab.2.2.1=0
  rw [this]
  exact Option.some.inj hn
 ·have:=(I0 hw).2.2
  rw [hfl] at this
  exact this.symm
theorem MF {v:List Nd} {l:List Ty} (h:seB v l=true):sdB l (seL v l)=true/\sdL l (seL v l)=v/\Iw l (seL v l)=true/\Iv l (seL v l)=true/\(seL v l).length<=400:=by
 have h':=h
 unfold seB at h'
 rw [anE] at h'
 obtain ⟨hf,he⟩:=h'
 obtain ⟨hk,h0,h40,H,hsf⟩:=EF hf
 rw [PR hf] at hsf
 obtain ⟨w1,w2,w3,w4⟩:=Aan hf
 have e:seL v l=A7 (vtr v 0) (t2L l 0):=by unfold seL; rw [h]; rfl
 unfold ecB ecL at he
 have he:=of_decide_eq_true he
 obtain ⟨g1,g2,g3⟩:=Cl (Dv hk).1
 have hd:=RV (vtr v 0) (t2L l 0) g2 (J9 (Dv hk).1) (by omega) (by omega) hsf w1 he
 rw [w3] at hd
 rw [e]
 obtain ⟨a1,a2⟩:=NX he hd
 rw [w2] at a2
 have hb:dvB (t2L l 0) (A7 (vtr v 0) (t2L l 0))=true:=by unfold dvB; rw [a1,a2,dcT h40]; rfl
 have hs:sdB l (A7 (vtr v 0) (t2L l 0))=true:=by unfold sdB; rw [hk,hb]; rfl
 have hi:Iv l (A7 (vtr v 0) (t2L l 0))=true:=by unfold Iv; rw [dcT he,hk]; rfl
 refine ⟨hs,?_,?_,hi,he⟩
 ·unfold sdL dvL
  rw [hs,hb,a2]; rfl
 ·unfold Iw
  rw [hi,hd]; rfl
theorem QS {t:List UInt8} {l:List Ty} (h:sdB l t=true):seB (sdL l t) l=true/\(seL (sdL l t) l).length<=t.length/\Iw l t=true:=by
 have h':=h
 unfold sdB at h'
 rw [anE] at h'
 obtain ⟨hk,hd⟩:=h'
 have hg:=(Dv hk).1
 obtain ⟨g1,g2,g3⟩:=Cl hg
 obtain ⟨d1,d2,v,d3,d4,d5,d6⟩:=VC hg hd
 have e:sdL l t=dvL (t2L l 0) t:=by unfold sdL; rw [h]; rfl
 have hl:=NE _ g2 (J9 hg) t 0 v d3
 have ht:t.length<=400:=by
  unfold dvB Fz at hd
  simp only [anE,dcE] at hd
  exact hd.1.1
 have hb:seB (sdL l t) l=true:=by
  unfold seB ecB ecL
  rw [Rm h,e,d6,dcT (by omega)]; rfl
 refine ⟨hb,?_,?_⟩
 ·unfold seL ecL
  rw [hb,e,d6]
  exact hl
 ·unfold Iw Iv
  rw [dcT ht,hk,d3]; rfl


def JS:Gm
 | [.agg [.sl NCd a],.agg [.sl NCd b]],[]=>.leaf (.b (decide (eqT (List Nd) a b)),[])
 | _,_=>.no
def FD:LoopEnt:=⟨31,[2,3,15,16],[],[4],fun
 | ([.ptr 0 0,.ptr 1 0,.i .i64 k,.i .i64 i],[some (.box [.sl NCd a]),some (.box [.sl NCd b])])=>.need (decide (0<=i/\i.toNat<=a.length/\k=a.length/\a.length=b.length/\a.length<=maxI)) (.br (decide (eqT (List Nd) (a.drop i.toNat) (b.drop i.toNat))) (.leaf (.exit 0,([],[]))) (.leaf (.ret,([.b false],[]))))
 | _=>.no⟩
theorem IQ (a b:List Nd) (k i:Int):A0 prog (Ab []) (Ab [(4,FD)]) 0 (body f14 0) FD ([.ptr 0 0,.ptr 1 0,.j k,.j i],[some (.box [.sl NCd a]),some (.box [.sl NCd b])]) =
 ((ifB (decide (i<k)) (ifT (decide ((0:Int)<=i)&&decide (i<(↑a.length:Int))) (Ap a[i.toNat]? fun z=>ifT (decide ((0:Int)<=i)&&decide (i<(↑b.length :
 Int))) (Ap b[i.toNat]? fun z_1=>ifB (!(z.fst==z_1.fst&&(z.snd.fst==z_1.snd.fst&&(z.snd.snd.fst==z_1.snd.snd.fst&&(z.snd.snd.snd.fst==
 z_1.snd.snd.snd.fst&&(z.snd.snd.snd.snd.fst==z_1.snd.snd.snd.snd.fst&&true)))))) (some (Ex.ret,[V.b false],[])) (some (Ex.normal,[V.ptr 0 0,V.ptr 1 0,V.i .i64
 k,V.j (IntKind.i64.wrap (i+(1:Int)))],[some (Blk.box [V.sl NCd a]),some (Blk.box [V.sl NCd b])]))))) (some (Ex.exit 0,[],[]))):_):=by kernel_rfl
theorem Abb (z y:Nd):(z.1==y.1&&(z.2.1==y.2.1&&(z.2.2.1==y.2.2.1&&(z.2.2.2.1==y.2.2.2.1&&(z.2.2.2.2.1==y.2.2.2.2.1&&true)))))=decide (eqT Nd z y):=by
 obtain ⟨a1,a2,a3,a4,a5,⟨⟩⟩:=z
 obtain ⟨b1,b2,b3,b4,b5,⟨⟩⟩:=y
 rw [Bool.eq_iff_iff]
 simp only [anE,beq_iff_eq,dcE,eqT,Prod.mk.injEq,and_true]
theorem JR (a b:List Nd) (hab:a.length=b.length) (hm:a.length<=maxI) : ∀ (j i:Nat),i+j=a.length->∀ ex d,(Br.br (decide (eqT (List Nd) (a.drop i) (b.drop i))) (.leaf (.exit 0,([],[]))) (.leaf (.ret,([.b false],[]))):Br (Ex×Dt)).run=some (ex,d)->
  Runs prog (Ab []) (Ab [(4,FD)]) 0 (body f14 0) FD ([.ptr 0 0,.ptr 1 0,.j (a.length:Int),.j (i:Int)],[some (.box [.sl NCd a]),some (.box [.sl NCd b])]) ex d
 | 0,i,hi,ex,d,h=>by
  have hr:=IQ a b a.length i
  rw [Ac (dcF (by omega))] at hr
  rw [List.drop_eq_nil_of_le (by omega),List.drop_eq_nil_of_le (by omega),dcT rfl] at h
  have h8:=Ar h
  obtain ⟨rfl,rfl⟩:=Prod.mk.inj h8
  exact .stop _ _ _ hr (by simp)
 | j+1,i,hi,ex,d,h=>by
  have hl:i<a.length:=by omega
  have hl2:i<b.length:=by omega
  have hM:maxI=9223372036854775807:=rfl
  have hr:=IQ a b a.length i
  rw [Af (dcT (by omega)),Aa (by simp only [anE,dcE]; omega),ntN,gtE hl,As,Aa (by simp only [anE,dcE]; omega),gtE hl2,As,A3 (n:=i) (by omega),Abb] at hr
  rw [List.drop_eq_getElem_cons hl,List.drop_eq_getElem_cons hl2,CC] at h
  by_cases q:a[i]=b[i]
  ·rw [dcT (show eqT Nd a[i] b[i] from q),Bool.not_true,Bd] at hr
   refine .step _ _ _ _ hr (JR a b hab hm j (i+1) (by omega) ex d ?_)
   rw [CC,<-h]
   by_cases q2:a.drop (i+1)=b.drop (i+1)
   ·rw [if_pos q2,if_pos (show eqT (List Nd) _ _ by unfold eqT; rw [q,q2])]
   ·rw [if_neg q2,if_neg (fun hh=>q2 (List.cons.inj hh).2)]
  ·rw [dcF (show ¬eqT Nd a[i] b[i] from q),Bool.not_false,Bq] at hr
   rw [if_neg (fun hh=>q (List.cons.inj hh).1)] at h
   have h8:=Ar h
   obtain ⟨rfl,rfl⟩:=Prod.mk.inj h8
   exact .stop _ _ _ hr (by simp)
theorem Ur:A4 prog (Ab []) (Ab [(4,FD)]) 0 (f14.body.getD .skip):=by
 refine Ax (a:=body f14 0) (by kernel_rfl) fun d ex d' h=>?_
 unfold FD at h
 dsimp only at h
 split at h
 ·rename_i k i a b
  obtain ⟨hc,hx⟩:=Ae h
  clear h
  obtain ⟨h0,h1,rfl,h3,h4⟩:=of_decide_eq_true hc
  obtain ⟨i,rfl⟩:=Int.eq_ofNat_of_zero_le h0
  simp only [ntN] at h1 hx
  exact JR a b h3 h4 (a.length-i) i (by omega) ex d' hx
 ·cases h
theorem Aa4:Ad prog 14 (Ent.rd1 JS).F:=by
 refine Am KnowsL.nil.knows (Λ:=(Ab [(4,FD)])) func14 (c:=f14.body.getD .skip) (by kernel_rfl) fun vs bs r hq hv hb=>?_
 unfold Ent.F JS at hq
 dsimp only at hq
 split at hq
 ·rename_i a b
  have hm:a.length<=maxI:=(hv (.agg [.sl NCd a]) (by simp) (.sl NCd a) (by simp)).1
  refine ⟨Ur,Eq.trans ?_ hq⟩
  have e:AQ prog (Ab []) (Ab [(4,FD)]) f14 [.agg [.sl NCd a],.agg [.sl NCd b]] []=((ifB ((↑a.length:Int) != (↑b.length:Int)) (some (V.b false,[])) (ifT (decide ((0:Int)<=(0:Int)/\0<=a.length/\(↑a.length:Int)=(↑a.length:Int)/\
 a.length=b.length/\a.length<=maxI)) (ifB (decide (eqT (List Nd) (drop 0 a) (drop 0 b))) (some (V.b true,[])) (some (V.b false,[]))))):_):=by kernel_rfl
  rw [e]
  clear e
  by_cases h:a.length=b.length
  ·rw [Ac (by rw [h]; simp),Aa (dcT ⟨by omega,by omega,rfl,h,hm⟩),drop_zero,drop_zero]
   cases decide (eqT (List Nd) a b)<;>rfl
  ·rw [Af (by simpa using fun hh=>h (by omega)),dcF (fun hh:eqT (List Nd) a b=>h (by rw [show a=b from hh]))]
   rfl
 ·cases hq
def coE:LoopEnt:=⟨216,[1],[],[4],fun
 | ([.sl (.int .u8) r],[])=>.need (decide ((Cur.mk r 0 0).good 0)) (.leaf (.ret,([.b true],[])))
 | _=>.no⟩
theorem Ym (f:List Int->List Nd×List Ty×Bool) (g:List Int->List UInt8×List Ty×Nat×Bool) (r:List Int):GL prog (Ab [(6,.rd1 (M7 f)),(7,.rd1 seG),(8,.rd1 seG),(9,.rd1 niG),(10,.rd1 M0),(11,.rd1 Id),(12,.rd1 idG),(13,.rd1 ivG),(14,.rd1 JS),(15,.rd1 (MD g)),(16,.rd1 sdG),(17,.rd1 Vn)]) (Ab [(1000015,coE)]) 0 (Jz Tryz.f3 1000015) coE ([.sl (.int .u8) r],[]) =
 ((shr (g r).fst fun sh2=>shr (take (g r).snd.snd.fst (drop 0 (g r).snd.fst)) fun sh1=>ifT (decide ((Cur.mk r (0:Int) (0:Int)).good (0:Int))) (ifT
 (decide (sh1.length<=4000000000)&&(nmL sh1&&decide (sh2.length<=4000000000))) (ifT (decide (sh1.length<=4000000000)&&nmL sh1) (ifT
 (decide (sh1.length<=4000000000)&&(nmL sh1&&decide (sh2.length<=4000000000))) (ifT (decide (sh1.length<=4000000000)&&nmL sh1) (ifB (!sdB
 sh1 sh2==sdB sh1 sh2) (some (Ex.ret,[V.b false],[])) (ifB (!decide (eqT (List Nd) (take (sdL sh1 sh2).length (drop 0 (sdL sh1 sh2))) (take (sdL
 sh1 sh2).length (drop 0 (sdL sh1 sh2))))) (some (Ex.ret,[V.b false],[])) (ifB (!Iv sh1 sh2==Iv sh1 sh2) (some (Ex.ret,[V.b false],[])) (ifB (!Iw
 sh1 sh2==Iw sh1 sh2) (some (Ex.ret,[V.b false],[])) (ifB (sdB sh1 sh2) (ifB (!Iw sh1 sh2) (some (Ex.ret,[V.b false],[])) (ifB (sdB sh1 sh2) (ifT (decide
 (sh1.length<=4000000000)&&nmL sh1&&decide ((take (sdL sh1 sh2).length (drop 0 (sdL sh1 sh2))).length<=4000000000)) (ifT (decide
 (sh1.length<=4000000000)&&(nmL sh1&&decide ((seL (take (sdL sh1 sh2).length (drop 0 (sdL sh1 sh2))) sh1).length<=4000000000)))
 (ifB (!seB (take (sdL sh1 sh2).length (drop 0 (sdL sh1 sh2))) sh1) (some (Ex.ret,[V.b false],[])) (ifT (decide (sh1.length<=4000000000)&&
 nmL sh1) (ifB (!CH (take (sdL sh1 sh2).length (drop 0 (sdL sh1 sh2))) sh1) (some (Ex.ret,[V.b false],[])) (ifB (!sdB sh1 (seL (take (sdL sh1
 sh2).length (drop 0 (sdL sh1 sh2))) sh1)) (some (Ex.ret,[V.b false],[])) (ifB (!decide (eqT (List Nd) (take (sdL sh1 (seL (take (sdL sh1
 sh2).length (drop 0 (sdL sh1 sh2))) sh1)).length (drop 0 (sdL sh1 (seL (take (sdL sh1 sh2).length (drop 0 (sdL sh1 sh2)))
 sh1)))) (take (sdL sh1 sh2).length (drop 0 (sdL sh1 sh2))))) (some (Ex.ret,[V.b false],[])) (ifB (decide ((↑(seL (take (sdL sh1 sh2).length
 (drop 0 (sdL sh1 sh2))) sh1).length:Int)>(↑sh2.length:Int))) (some (Ex.ret,[V.b false],[])) (some (Ex.ret,[V.b true],[])))))))))) (some (Ex.ret,
 [V.b true],[])))) (ifB (sdB sh1 sh2) (ifT (decide (sh1.length<=4000000000)&&nmL sh1&&decide ((take (sdL sh1 sh2).length (drop 0 (sdL sh1
 sh2))).length<=4000000000)) (ifT (decide (sh1.length<=4000000000)&&(nmL sh1&&decide ((seL (take (sdL sh1 sh2).length (drop 0 (sdL
 sh1 sh2))) sh1).length<=4000000000))) (ifB (!seB (take (sdL sh1 sh2).length (drop 0 (sdL sh1 sh2))) sh1) (some (Ex.ret,[V.b false],[])) (ifT
 (decide (sh1.length<=4000000000)&&nmL sh1) (ifB (!CH (take (sdL sh1 sh2).length (drop 0 (sdL sh1 sh2))) sh1) (some (Ex.ret,[V.b false],
 [])) (ifB (!sdB sh1 (seL (take (sdL sh1 sh2).length (drop 0 (sdL sh1 sh2))) sh1)) (some (Ex.ret,[V.b false],[])) (ifB (!decide (eqT (List Nd)
 (take (sdL sh1 (seL (take (sdL sh1 sh2).length (drop 0 (sdL sh1 sh2))) sh1)).length (drop 0 (sdL sh1 (seL (take (sdL sh1
 sh2).length (drop 0 (sdL sh1 sh2))) sh1)))) (take (sdL sh1 sh2).length (drop 0 (sdL sh1 sh2))))) (some (Ex.ret,[V.b false],[])) (ifB
 (decide ((↑(seL (take (sdL sh1 sh2).length (drop 0 (sdL sh1 sh2))) sh1).length:Int)>(↑sh2.length:Int))) (some (Ex.ret,[V.b false],[])) (some
 (Ex.ret,[V.b true],[])))))))))) (some (Ex.ret,[V.b true],[]))))))))))))):_):=by kernel_rfl
theorem SE (f:List Int->List Nd×List Ty×Bool) (g:List Int->List UInt8×List Ty×Nat×Bool) (l r:List Int):AQ prog (Ab [(6,.rd1 (M7 f)),(7,.rd1 seG),(8,.rd1 seG),(9,.rd1 niG),(10,.rd1 M0),(11,.rd1 Id),(12,.rd1 idG),(13,.rd1 ivG),(14,.rd1 JS),(15,.rd1 (MD g)),(16,.rd1 sdG),(17,.rd1 Vn)]) (Ab [(1000015,coE)]) Tryz.f3 [.sl (.int .u8) l,.sl (.int .u8) r] [] =
 ((shr (ifT (decide ((Cur.mk r (0:Int) (0:Int)).good (0:Int))) (some (V.b true,[]))) fun sh3=>shr (take (f l).fst.length (drop 0 (f l).fst)) fun
 sh2=>shr (take (f l).snd.fst.length (drop 0 (f l).snd.fst)) fun sh1=>ifB (decide (IntKind.i64.wrap ((↑l.length:Int)+(↑r.length:Int)) >
 (1048576:Int))) (some (V.b true,[])) (ifT (decide ((Cur.mk l (0:Int) (0:Int)).good (0:Int))) (ifT (decide (sh1.length<=4000000000)&&nmL sh1&&decide
 (sh2.length<=4000000000)) (ifT (decide (sh1.length<=4000000000)&&nmL sh1&&decide (sh2.length<=4000000000)) (ifT (decide (sh1.length<=
 4000000000)&&nmL sh1) (ifT (decide (sh1.length<=4000000000)&&nmL sh1) (ifB (!seB sh2 sh1==seB sh2 sh1) (some (V.b false,[])) (ifB (!seL sh2 sh1==
 seL sh2 sh1) (some (V.b false,[])) (ifT (decide (sh1.length<=4000000000)&&nmL sh1&&decide (sh2.length<=4000000000)) (ifB (!CH sh2 sh1==Df
 sh2 sh1) (some (V.b false,[])) (ifB (!CH sh2 sh1==CH sh2 sh1) (some (V.b false,[])) (ifB (CH sh2 sh1) (ifB ((bif CH sh2 sh1 then (↑sh2.length:Int) else
 (0:Int)) != (↑(f l).fst.length:Int)) (some (V.b false,[])) (ifB (seB sh2 sh1) (ifT (decide (sh1.length<=4000000000)&&(nmL sh1&&decide ((seL sh2
 sh1).length<=4000000000))) (ifT (decide (sh1.length<=4000000000)&&(nmL sh1&&decide ((seL sh2 sh1).length<=4000000000))) (ifB (!sdB sh1 (seL
 sh2 sh1)) (some (V.b false,[])) (ifB (!decide (eqT (List Nd) (take (sdL sh1 (seL sh2 sh1)).length (drop 0 (sdL sh1 (seL sh2 sh1)))) sh2)) (some (V.b
 false,[])) (ifB (!Iv sh1 (seL sh2 sh1)) (some (V.b false,[])) (ifB (!Iw sh1 (seL sh2 sh1)) (some (V.b false,[])) sh3)))))) sh3)) (ifB (seB sh2 sh1) (ifT (decide
 (sh1.length<=4000000000)&&(nmL sh1&&decide ((seL sh2 sh1).length<=4000000000))) (ifT (decide (sh1.length<=4000000000)&&(nmL sh1&&decide
 ((seL sh2 sh1).length<=4000000000))) (ifB (!sdB sh1 (seL sh2 sh1)) (some (V.b false,[])) (ifB (!decide (eqT (List Nd) (take (sdL sh1 (seL sh2 sh1)).length
 (drop 0 (sdL sh1 (seL sh2 sh1)))) sh2)) (some (V.b false,[])) (ifB (!Iv sh1 (seL sh2 sh1)) (some (V.b false,[])) (ifB (!Iw sh1 (seL sh2 sh1)) (some
 (V.b false,[])) sh3)))))) sh3))))))))))))):_):=by kernel_rfl
theorem Xh {w:List Ty} {n:Nat} (h:nmL w=true):nmL (w.take n)=true:=by
 unfold nmL at h ⊢
 rw [all_eq_true] at h ⊢
 exact fun x hx=>h x (List.mem_of_mem_take hx)
theorem Us (a:List Nd):decide (eqT (List Nd) a a)=true:=dcT rfl
noncomputable abbrev Ws:FuncId->Option Ent:=Ab [(6,.rd1 (M7 FU)),(7,.rd1 seG),(8,.rd1 seG),(9,.rd1 niG),(10,.rd1 M0),(11,.rd1 Id),(12,.rd1 idG),(13,.rd1 ivG),(14,.rd1 JS),(15,.rd1 (MD Fl)),(16,.rd1 sdG),(17,.rd1 Vn)]
theorem Aah (r:List Int) (hd:(Cur.mk r 0 0).good 0):GL prog Ws (Ab [(1000015,coE)]) 0 (Jz Tryz.f3 1000015) coE ([.sl (.int .u8) r],[])=some (.ret,([.b true],[])):=by
 rw [Ym]
 try dsimp only [shr]
 obtain ⟨b1,b2,b3,b4,b5⟩:=Ye r hd
 generalize Fl r=G at *
 obtain ⟨t,w,n,ro⟩:=G
 dsimp only at *
 have hu1:nmL (w.take n)=true:=Xh b2
 have hu2:(w.take n).length<=30:=by rw [List.length_take]; omega
 simp only [drop_zero,take_length]
 generalize w.take n=u at *
 have n1:(decide (u.length<=4000000000)&&(nmL u&&decide (t.length<=4000000000)))=true:=by rw [hu1,dcT (by omega),dcT (by omega)]; rfl
 have n2:(decide (u.length<=4000000000)&&nmL u)=true:=by rw [hu1,dcT (by omega)]; rfl
 rw [Aa (dcT hd)]
 simp only [n1,n2,Dc,beq_self_eq_true,Bool.not_true,Bd,decide_true]
 cases hs:sdB u t with
 | false=>simp only [Bd]
 | true=>
  obtain ⟨c1,c2,c3⟩:=QS hs
  obtain ⟨d1,d2,d3,d4,d5⟩:=MF c1
  have hf:CH (sdL u t) u=true:=by rw [JB]; exact Rm hs
  have hx:(sdL u t).length<=40:=by unfold sdL; rw [hs]; exact VB
  have n3:(decide (u.length<=4000000000)&&nmL u&&decide ((sdL u t).length<=4000000000))=true:=by rw [n2,dcT (by omega)]; rfl
  have n4:(decide (u.length<=4000000000)&&(nmL u&&decide ((seL (sdL u t) u).length<=4000000000)))=true:=by rw [hu1,dcT (by omega),dcT (by omega)]; rfl
  have n5:decide (((seL (sdL u t) u).length:Int)>(t.length:Int))=false:=dcF (by omega)
  have n6:decide ((sdL u t).length<=4000000000)=true:=dcT (by omega)
  simp only [Bq,Bd,Dc,Bool.not_true,Bool.and_true,c1,c3,d1,d2,hf,n4,n5,n6,decide_true]
theorem Ab4 : ∀ d e d',(coE.L d).run=some (e,d')->GL prog Ws (Ab [(1000015,coE)]) 0 (Jz Tryz.f3 1000015) coE d=some (e,d'):=fun d e d' h=>by
 unfold coE at h
 dsimp only at h
 split at h
 ·rename_i r
  obtain ⟨hc,hx⟩:=Ae h
  exact (Aah r (of_decide_eq_true hc)).trans hx
 ·cases h
theorem u8_range {n:Int} (h:(Lit.int .u8 n).wf=true):0<=n/\n<=255:=by
 simp only [Lit.wf,anE,dcE] at h
 exact h
theorem law_knows:Knows prog Ws:=KnowsL.knows (kc func6 VV (kc func7 Aco (kc func8 Aa1 (kc func9 ini (kc func10 Y6 (kc func11 Uk (kc func12 Acp (kc func13 iiv (kc func14 Aa4 (kc func15 Wf (kc func16 Ach (kc func17 Acg KnowsL.nil))))))))))))
theorem law_loops:A4 prog Ws (Ab [(1000015,coE)]) 0 (Tryz.f3.body.getD .skip):=CutsI.loops (cs:=[(Jz Tryz.f3 1000015,coE)]) (.cons Ab4 .nil) .nil (by kernel_rfl) (by kernel_rfl)
theorem law_fun (l r:List Int) (hb : ∀ z∈l,0<=z/\z<=255) (hr : ∀ z∈r,0<=z/\z<=255):AQ prog Ws (Ab [(1000015,coE)]) Tryz.f3 [.sl (.int .u8) l,.sl (.int .u8) r] []=some (.b true,[]):=by
 rw [SE]
 try dsimp only [shr]
 simp only [drop_zero,take_length]
 by_cases h0:IntKind.i64.wrap ((l.length:Int)+(r.length:Int))>1048576
 ·rw [Af (dcT h0)]
 have hc:(Cur.mk l 0 0).good 0:=⟨hb,Int.le_refl _,Int.le_refl _⟩
 have hd:(Cur.mk r 0 0).good 0:=⟨hr,Int.le_refl _,Int.le_refl _⟩
 have hd':decide ((Cur.mk r 0 0).good 0)=true:=dcT hd
 rw [Ac (dcF h0),Aa (dcT hc)]
 obtain ⟨⟨b1,b2⟩,b3,b4,b5⟩:=XS l hc
 generalize FU l=G at *
 obtain ⟨v,s,ro⟩:=G
 dsimp only at *
 have n1:(decide (s.length<=4000000000)&&nmL s)=true:=by rw [b3,dcT (by omega)]; rfl
 have n2:(decide (s.length<=4000000000)&&nmL s&&decide (v.length<=4000000000))=true:=by rw [n1,dcT (by omega)]; rfl
 have n3:(decide (s.length<=4000000000)&&(nmL s&&decide ((seL v s).length<=4000000000)))=true:=by have:=Up v s; rw [b3,dcT (by omega),dcT (by omega)]; rfl
 have n4:decide (v.length<=4000000000)=true:=dcT (by omega)
 simp only [n1,n3,n4,hd',Dc,JB,beq_self_eq_true,Bool.not_true,Bool.and_true,Bd]
 cases he:seB v s with
 | false=>
  cases hf:Df v s
  ·rfl
  ·simp only [Bq,cond_true,bne_self_eq_false,Bd]
 | true=>
  obtain ⟨d1,d2,d3,d4,d5⟩:=MF he
  simp only [Bq,Bd,d1,d2,d3,d4,Bool.not_true,decide_true]
  cases hf:Df v s
  ·rfl
  ·simp only [Bq,cond_true,bne_self_eq_false,Bd]
end Go.Proofs.YteninfkgajnfcaaGreat.Den
