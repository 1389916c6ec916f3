/-
  SEVERAL TEXTS IN ONE: Qv9, FsO, Qw1, SeP.
-/
import Derived.Test.YtopgddfgefnmbaaGreatDoorPServePieces6
import Derived.Test.YtopgddfgefnmbaaGreatDoorRows
import Derived.Lay
import Derived.LaidLaws
import Derived.LaidHandle
import Derived.Stop.Joined
set_option maxHeartbeats 8000000
set_option maxRecDepth 100000
namespace Go.Proofs.YtopgddfgefnmbaaGreatDoor
open Go Go.RK
theorem Gf {h:ah} {A:Option Addr} {c:Nat} {B:List UInt8} (r:Rd h (.slice A B.length c) 1 B.length (bB B)) {a z:Nat} (hz:a+z≤B.length):Rd h (.slice (if c=a then A else A.map (·.add (a * 1))) (a+z - a) (c - a)) 1 ((B.drop a).take z).length (bB ((B.drop a).take z)):=by
 obtain ⟨A',c',e,r'⟩:=oA r (l:=a) (k:=a+z) (by omega) hz
 simp only [Value.slice.injEq] at e
 obtain ⟨rfl,_,rfl⟩:=e
 have hl:((B.drop a).take z).length=a+z - a:=by rw [List.length_take,List.length_drop];omega
 have he:((bB B).drop (a * 1)).take ((a+z - a) * 1)=bB ((B.drop a).take z):=by rw [Nat.mul_one,Nat.mul_one,Nat.add_sub_cancel_left];simp only [bB,List.map_take,List.map_drop]
 rw [hl,← he]
 exact r'
theorem D0 {h:ah} {vb vs:Value} {ss:List UInt8} {fs:List Fm} (gs:ta fs) (er:Er h) (hB:Rd h vb 1 (dZ fs).length (bB (dZ fs))) (hs:Rd h vs 1 ss.length (bB ss)) (hl:ss.length≤100) :
   ag Tryz.prog 10 ⟨[vb,vs]⟩ h fun u h'=>u=St (AV (nN fs))∧Ext No h h':=by
 have xt:=er.pos
 have hfn:=gs.n
 have hfl:=gs.l
 obtain ⟨A,c,rfl,hcB,_⟩:=id hB
 obtain ⟨A2,c2,rfl,_⟩:=id hs
 refine calls [(0,_),(1,_)] Tryz.func10 rfl Tryz.ntmps10 rfl ⟨rfl,rfl,trivial⟩ ?_
 refine G2 ?_;refine WC.sr ?_;refine WL.call (vs:=[]) rfl Tryz.call24 rfl (vn) rfl rfl rfl ?_
 rintro _ h1 ⟨be,me,rfl,hbe,hme,hge,hgm,az⟩
 refine WL.call (vs:=[_,_,_]) rfl Tryz.call23 rfl (It hbe hme az (by omega)) rfl rfl rfl ?_
 rintro _ h2 ⟨b,rfl,NL,aI⟩
 have k0:Vv h h2 b fs 0 [] 0 false:=.inl ⟨by simpa using NL,rfl,rfl,fun z=>nomatch z⟩
 have X2:=az.trans aI
 refine Go ?_;refine G2 ?_;refine G2 ?_;refine G3 ?_;refine WC.block ?_;refine WC.bD (X:=Nat × Nat × Nat × List (Int × List UInt8)) (fun x=>([(6,St (AV x.2.2.2)),(7,In (x.2.1:Int)),(8,In (x.1:Int))]:Fr)) [(0,_),(1,_),(5,_)] (fun x h'=>x.1≤ss.length+1∧x.2.1≤(dZ fs).length∧Vv h h' b fs x.2.1 x.2.2.2 x.2.2.1 false∧Ext No h h'∧(x.1=ss.length+1→x.2.2.2=nN fs)) (fun x=>ss.length+1 - x.1) ((0,0,0,[])) ⟨rfl,rfl,rfl,rfl,rfl,rfl,trivial⟩ (by exact ⟨by omega,Nat.zero_le _,k0,X2,fun z=>by dsimp only at z;omega⟩) ?_
 rintro ⟨i,a,n,T⟩ h3 ⟨hi,ha,kv,X3,hT⟩
 dsimp only at hi ha kv hT
 refine WC.sub [(6,_),(7,_),(8,_),(0,_),(1,_),(5,_)] ⟨rfl,rfl,rfl,rfl,rfl,rfl,trivial⟩ ?_
 dsimp only
 refine G3 ?_
 refine aH 1 2 (Hb.mk fun hb=>?_) (Hb.mk fun hb=>?_)
 all_goals try (
 refine aw 1 ?_
 refine WC.skip ?_
 skip)
 all_goals try (
 refine aw 2 ?_
 refine WC.exit ?_
 repeat' (with_reducible first | refine aU ?_ | refine aD rfl ?_ | refine aJ ?_ | refine aL ?_ | refine aS ?_)
 refine Br.out (i:=1000) ?_
 skip)
 all_goals (refine Gn ?_;first | refine Br.ab ?_ | refine Gs [(0,_),(1,_),(5,_),(6,_),(7,_),(8,_)] ?_)
 all_goals (first | refine Br.ab ?_ | refine WC.seq ?_)
 all_goals (first | refine Br.ab ?_ | refine WC.block ?_)
 all_goals (first | refine Br.ab ?_ | refine WC.sr ?_)
 all_goals (first | refine Br.ab ?_ | refine WL.step (ak rfl) rfl rfl rfl ?_)
 all_goals (first | refine Br.ab ?_ | refine WL.step (cq rfl Tryz.underlying23 rfl) rfl rfl rfl ?_)
 all_goals (first | refine Br.ab ?_ | refine WL.step (ak rfl) rfl rfl rfl ?_)
 all_goals (first | refine Br.ab ?_ | (refine WL.step (eV rfl rfl (by omega)) rfl rfl rfl ?_))
 all_goals (first | refine Br.ab ?_ | (rw [show (((dZ fs).length:Nat):Int) - (a:Int)=(((dZ fs).length - a:Nat):Int) by omega]))
 all_goals (refine Go ?_;first | refine Br.ab ?_ | refine Gs [(0,_),(1,_),(5,_),(6,_),(7,_),(8,_),(9,_)] ?_)
 refine WC.cut (X:=Nat) (fun z=>[(0,.slice A (dZ fs).length c),(1,.slice A2 ss.length c2),(5,.pointer (some ⟨b,0,none⟩)),(6,St (AV T)),(7,In (a:Int)),(8,In (i:Int)),(9,In (z:Int))]) (fun z h'=>z≤(dZ fs).length - a∧(i=ss.length→a+z=(dZ fs).length)∧h'=h3) ?_ ?_
 ·
   refine G2 ?_
   refine aH 3 4 (Hb.mk fun hb=>?_) (Hb.mk fun hb=>?_)
   all_goals try (
   refine aw 3 ?_
   refine WC.region (Go ?_)
   obtain ⟨bS,oS,hSA,hbS,hatS⟩:=Rd.at_ (hs.aq X3) (by omega)
   subst hSA
   obtain ⟨y,hy⟩:∃ y,ss[i]?=some y:=⟨_,List.getElem?_eq_getElem (by omega)⟩
   have LS:=y.toNat_lt
   have hcd:cell h3 ⟨bS,oS+i * 1,none⟩=some (By y):=by rw [Nat.mul_one];exact hatS.one (j:=i) (by simp [hy])
   refine WL.step (aE Tryz.underlying23 Tryz.sizeOf5 rfl rfl rfl (by omega) (by first | rfl | assumption)) rfl rfl rfl ?_
   refine WL.ld rfl (by first | exact hcd | assumption) rfl rfl rfl ?_
   refine WL.step (j4 Tryz.underlying5 Tryz.underlying3 rfl (by omega)) rfl rfl rfl ?_
   refine WL.step (j1 rfl rfl) rfl rfl rfl ?_
   rw [show (if (y.toNat:Int) < (((dZ fs).length - a:Nat):Int) then (y.toNat:Int) else (((dZ fs).length - a:Nat):Int))=((min ((dZ fs).length - a) y.toNat:Nat):Int) by split <;> omega]
   refine Go ?_
   skip)
   all_goals try (
   refine aw 4 ?_
   refine WC.skip ?_
   skip)
   all_goals (refine Gn ?_;refine ⟨_,⟨rfl,rfl,rfl,rfl,rfl,rfl,rfl,trivial⟩,?_⟩;exact ⟨by omega,fun e=>by omega,rfl⟩)
 rintro z h4 ⟨iV,Ho,hz⟩;subst hz
 all_goals (first | refine Br.ab ?_ | refine WC.sr ?_)
 all_goals (refine Go ?_;first | refine Br.ab ?_ | (refine WL.step (cW (l:=a) (k:=a+z) Tryz.underlying23 Tryz.sizeOf5 rfl rfl rfl (by omega)) rfl rfl rfl ?_))
 all_goals (
  first
    | (refine Br.ab ?_)
    | (refine WL.call (vs:=[_,_]) rfl Tryz.call25 rfl (Gc gs kv rfl (Gf (hB.aq X3) (by omega))) rfl rfl rfl ?_
       rintro v4 h4 ⟨NM,aW⟩
       have X4:Ext No h h4:=X3.trans' aW (fun q hq (e:h.size≤q)=>by omega)))
 all_goals (refine Gn ?_;first | refine Br.ab ?_ | refine Gs [(0,_),(1,_),(5,_),(6,_),(7,_),(8,_),(9,_)] ?_)
 all_goals (first | refine Br.ab ?_ | refine WC.sr ?_)
 all_goals (refine Go ?_;first | refine Br.ab ?_ | refine Gs [(0,_),(1,_),(5,_),(6,_),(7,_),(8,_)] ?_)
 all_goals (first | refine Br.ab ?_ | refine WC.seq ?_)
 all_goals (first | refine Br.ab ?_ | refine WC.sr ?_)
 all_goals (refine Go ?_;first | refine Br.ab ?_ | refine WC.block ?_)
 all_goals (first | refine Br.ab ?_ | (refine WC.bD (X:=Nat × Nat) (fun x=>([(50,In (x.1:Int))]:Fr)) [(0,_),(1,_),(5,_),(6,_),(7,_),(8,_)] (fun x h'=>x.1≤700∧x.1≤x.2∧Vv h h' b fs (a+z) T x.2 false∧Ext No h h') (fun x=>700 - x.1) ((0,n)) ⟨rfl,rfl,rfl,rfl,rfl,rfl,rfl,trivial⟩ (by exact ⟨by omega,Nat.zero_le _,NM,X4⟩) ?_))
 all_goals (
  first
    | (refine Br.ab ?_)
    | (rintro ⟨j,n5⟩ h5 ⟨hj,hjn,KL,X5⟩
       dsimp only at hj hjn KL
       have Gp:=KL.le))
 all_goals (first | refine Br.ab ?_ | refine WC.sub [(50,_),(0,_),(1,_),(5,_),(6,_),(7,_),(8,_)] ⟨rfl,rfl,rfl,rfl,rfl,rfl,rfl,trivial⟩ ?_)
 all_goals (first | refine Br.ab ?_ | dsimp only)
 all_goals (first | refine Br.ab ?_ | refine WC.sr ?_)
 all_goals (refine Go ?_;first | refine Br.ab ?_ | refine WC.seq ?_)
 all_goals (first | refine Br.ab ?_ | refine aH 5 6 ?_ TT.mk)
 all_goals try (
 refine aw 5 ?_
 refine WC.skip ?_
 skip)
 all_goals (refine Gn ?_;first | refine Br.ab ?_ | refine WC.seq ?_)
 all_goals (first | refine Br.ab ?_ | refine WC.block ?_)
 all_goals (first | refine Br.ab ?_ | refine WC.sr ?_)
 all_goals (refine Go ?_)
 all_goals (
  first
    | (refine Br.ab ?_)
    | (refine WL.call (vs:=[_]) rfl Tryz.call26 rfl (Iy gs (er.aq X5) xt KL) rfl rfl rfl ?_
       rintro _ h6 ⟨⟨g6,HB,rfl,KM,k6⟩,aN⟩
       have X6:Ext No h h6:=X5.trans' aN (fun q hq (e:h.size≤q)=>by omega)))
 all_goals (refine Go ?_)
 all_goals (
  first
    | (refine Br.ab ?_)
    | (refine WL.aj (an (fun w=>Tryz.zeroValue42 w)) rfl rfl rfl ?_
       rintro _ h7 ⟨Lv,rfl,xC,ca,ba⟩))
 all_goals (
  first
    | (refine Br.ab ?_)
    | (refine WL.ax (al Tryz.sizeOf42 rfl rfl rfl ca rfl KM) rfl rfl ?_
       rintro _ h8 ⟨bE,bz⟩
       have I8:Ext No h6 h8:=ba.trans' bz (fun q hq e=>by omega)
       have X8:=X6.trans I8
       rcases k6 with ⟨rfl,ek,k6⟩ | ⟨rfl,NN⟩))
 all_goals (refine Go ?_;first | refine Br.ab ?_ | refine Gs [(0,_),(1,_),(5,_),(6,_),(7,_),(8,_),(10,_),(11,_),(50,_)] ?_)
 all_goals (first | refine Br.ab ?_ | refine WC.sr ?_)
 all_goals (refine Go ?_;first | refine Br.ab ?_ | refine bK 59 ?_ TT.mk)
 all_goals (refine Gg ?_;first | refine Br.ab ?_ | (first | (refine WL.pass rfl rfl rfl ?_) | (refine WL.ld rfl (by first | exact aa bE rfl | assumption) rfl rfl rfl ?_)))
 all_goals (refine Gg ?_;refine Go ?_;first | refine Br.ab ?_ | refine Gs [(0,_),(1,_),(5,_),(6,_),(7,_),(8,_),(50,_),(63,_)] ?_)
 all_goals (first | refine Br.ab ?_ | refine aH 7 8 ?_ TT.mk)
 all_goals try (
 refine aw 7 ?_
 refine G2 ?_;refine WL.call (vs:=[_]) rfl Tryz.call26 rfl (Iz gs (er.aq X8) xt (k6.imp (fun k=>k.aq I8) (fun k=>k.aq I8))) rfl rfl rfl ?_
 rintro _ h9 ⟨⟨g9,IV,rfl,KN,k9⟩,bZ⟩
 have X9:Ext No h h9:=X8.trans' bZ (fun q hq (e:h.size≤q)=>by omega)
 refine Go ?_;refine WL.aj (an (fun w=>Tryz.zeroValue42 w)) rfl rfl rfl ?_
 rintro _ iG ⟨DL,rfl,FI,fH,ct⟩
 refine WL.ax (al Tryz.sizeOf42 rfl rfl rfl fH rfl KN) rfl rfl ?_
 rintro _ qg ⟨oy,cM⟩
 have Gh:Ext No h9 qg:=ct.trans' cM (fun q hq e=>by omega)
 have FK:=X9.trans Gh
 rcases k9 with ⟨rfl,KO⟩ | ⟨rfl,KO⟩
 all_goals (refine Go ?_;refine Gs [(0,_),(1,_),(5,_),(6,_),(7,_),(8,_),(13,_),(50,_)] ?_;refine G2 ?_;refine aH 9 10 ?_ TT.mk)
 all_goals try (
 refine aw 9 ?_
 refine WC.exit ?_
 repeat' (with_reducible first | refine aU ?_ | refine aD rfl ?_ | refine aJ ?_ | refine aL ?_ | refine aS ?_)
 refine Br.out (i:=1002) ?_
 skip)
 all_goals try (
 refine aw 10 ?_
 refine WC.skip ?_
 skip)
 skip)
 all_goals try (
 refine aw 8 ?_
 refine WC.skip ?_
 skip)
 all_goals (refine Gn ?_;first | refine Br.ab ?_ | refine WC.region ?_)
 all_goals (refine Go ?_;first | refine Br.ab ?_ | (exact ⟨(j+1,n5+1),⟨rfl,rfl,rfl,rfl,rfl,rfl,rfl,trivial⟩,(by first | exact ⟨by omega,by omega,.inr (KO.aq Gh),FK⟩ | exact ⟨by omega,by omega,.inr (NN.aq I8),X8⟩ | (exfalso;omega)),(by dsimp only;omega)⟩))
 all_goals (try (refine Br.mk (i:=1002) ?_))
 all_goals (refine Gn ?_;first | refine Br.ab ?_ | refine Gs [(0,_),(1,_),(5,_),(6,_),(7,_),(8,_)] ?_)
 all_goals (first | refine Br.ab ?_ | refine WC.sr ?_)
 all_goals (first | refine Br.ab ?_ | (first | (exfalso;omega) | skip))
 all_goals (first | refine Br.ab ?_ | refine WL.step (ak rfl) rfl rfl rfl ?_)
 all_goals (first | refine Br.ab ?_ | have kvI:=KO.aq Gh)
 all_goals (refine Gn ?_;first | refine Br.ab ?_ | refine WC.block ?_)
 all_goals (first | refine Br.ab ?_ | (refine WC.bD (X:=Nat × List (Int × List UInt8)) (fun x=>([(72,In (x.1:Int)),(6,St (AV x.2))]:Fr)) [(0,_),(1,_),(5,_),(7,_),(8,_)] (fun x h'=>x.1≤5000∧x.1≤x.2.length∧Vv h h' b fs (a+z) x.2 n5 true∧Ext No h h') (fun x=>5000 - x.1) ((0,T)) ⟨rfl,rfl,rfl,rfl,rfl,rfl,rfl,trivial⟩ (by exact ⟨by omega,Nat.zero_le _,kvI,FK⟩) ?_))
 all_goals (
  first
    | (refine Br.ab ?_)
    | (rintro ⟨j2,T2⟩ qR ⟨NO,hjT,Dd,GG⟩
       dsimp only at NO hjT Dd
       have hTl:=Dd.IA gs
       have hTx:=Dd.AV gs))
 all_goals (first | refine Br.ab ?_ | refine WC.sub [(6,_),(72,_),(0,_),(1,_),(5,_),(7,_),(8,_)] ⟨rfl,rfl,rfl,rfl,rfl,rfl,rfl,trivial⟩ ?_)
 all_goals (first | refine Br.ab ?_ | dsimp only)
 all_goals (first | refine Br.ab ?_ | refine WC.sr ?_)
 all_goals (refine Go ?_;first | refine Br.ab ?_ | refine WC.seq ?_)
 all_goals (first | refine Br.ab ?_ | refine aH 11 12 ?_ TT.mk)
 all_goals try (
 refine aw 11 ?_
 refine WC.skip ?_
 skip)
 all_goals (refine Gn ?_;first | refine Br.ab ?_ | refine WC.seq ?_)
 all_goals (first | refine Br.ab ?_ | refine WC.block ?_)
 all_goals (first | refine Br.ab ?_ | refine WC.sr ?_)
 all_goals (refine Go ?_)
 all_goals (
  first
    | (refine Br.ab ?_)
    | (refine WL.call (vs:=[_]) rfl Tryz.call27 rfl (Ge gs Dd) rfl rfl rfl ?_
       rintro _ Ft ⟨⟨rfl,Ba⟩ | ⟨y,m,rfl,hm,Ba⟩,gu⟩
       all_goals have H5:Ext No h Ft:=GG.trans' gu (fun q hq (e:h.size≤q)=>by omega)))
 all_goals (refine Go ?_)
 all_goals (
  first
    | (refine Br.ab ?_)
    | (refine WL.aj (an (fun w=>Tryz.zeroValue53 w)) rfl rfl rfl ?_
       rintro _ CA ⟨OV,rfl,NP,bJ,il⟩))
 all_goals (
  first
    | (refine Br.ab ?_)
    | (refine WL.ax (al Tryz.sizeOf53 rfl rfl rfl bJ rfl (by intro x hx;simp only [List.mem_cons,List.not_mem_nil,or_false] at hx;rcases hx with rfl | rfl;rfl;first | exact hU hm | rfl)) rfl rfl ?_
       rintro _ HK ⟨db,qi⟩
       have IB:Ext No Ft HK:=il.trans' qi (fun q hq e=>by omega)))
 all_goals (refine Go ?_;first | refine Br.ab ?_ | refine Gs [(0,_),(1,_),(5,_),(6,_),(7,_),(8,_),(14,_),(15,_),(72,_)] ?_)
 all_goals (first | refine Br.ab ?_ | refine WC.seq ?_)
 all_goals (first | refine Br.ab ?_ | refine WC.sr ?_)
 all_goals (refine Go ?_;first | refine Br.ab ?_ | refine aH 13 14 ?_ TT.mk)
 all_goals try (
 refine aw 13 ?_
 refine WC.exit ?_
 repeat' (with_reducible first | refine aU ?_ | refine aD rfl ?_ | refine aJ ?_ | refine aL ?_ | refine aS ?_)
 refine Br.out (i:=1004) ?_
 skip)
 all_goals try (
 refine aw 14 ?_
 refine WC.skip ?_
 skip)
 all_goals (refine Gn ?_;first | refine Br.ab ?_ | refine WC.region ?_)
 all_goals (
  first
    | (refine Br.ab ?_)
    | (have hyb:=Ba.body gs
       obtain ⟨LM,LN,rfl,_⟩:=id hm.slice))
 all_goals (first | refine Br.ab ?_ | refine WL.step (ak rfl) rfl rfl rfl ?_)
 all_goals (refine Go ?_;first | refine Br.ab ?_ | (refine WL.ld rfl (by first | exact aa db rfl | assumption) rfl rfl rfl ?_))
 all_goals (
  first
    | (refine Br.ab ?_)
    | (refine WL.aj (au (vs:=[_]) (cs:=[_]) (fun | [a0]=>[a0] | _=>[]) Tryz.underlying23 rfl rfl (by kernel_rfl)) rfl rfl rfl ?_
       rintro _ NQ ⟨Ms,rfl,Hc,dx,xz⟩))
 all_goals (first | refine Br.ab ?_ | (refine WL.step (dM Tryz.underlying23 Tryz.underlying5 Tryz.underlying9 rfl (l:=[UInt8.ofNat y.1.toNat]) (bx (len:=1) (sz:=1) (cs:=bB [UInt8.ofNat y.1.toNat]) (by rw [show bB [UInt8.ofNat y.1.toNat]=[.int .u8 y.1] by simp only [bB,List.map_cons,List.map_nil,ph hyb.2]];exact dx) rfl)) rfl rfl rfl ?_))
 all_goals (refine Go ?_;first | refine Br.ab ?_ | (refine WL.ld rfl (by first | exact aa (xz.obj db aO) rfl | assumption) rfl rfl rfl ?_))
 all_goals (first | refine Br.ab ?_ | (refine WL.step (dM Tryz.underlying23 Tryz.underlying5 Tryz.underlying9 rfl ((hm.ext IB (fun _ _=>aO)).ext xz (fun _ _=>aO)).rd) rfl rfl rfl ?_))
 all_goals (first | refine Br.ab ?_ | (refine WL.step (dn rfl rfl (by first | (simp only [List.length_append,List.length_cons,List.length_nil];omega) | (simp;omega))) rfl rfl rfl ?_))
 all_goals (first | refine Br.ab ?_ | (refine WL.step (dn rfl rfl (by first | (simp only [List.length_append,List.length_cons,List.length_nil];omega) | (simp;omega))) rfl rfl rfl ?_))
 all_goals (first | refine Br.ab ?_ | rw [← AW])
 all_goals (refine Go ?_;first | refine Br.ab ?_ | refine Gs [(0,_),(1,_),(5,_),(6,_),(7,_),(8,_),(72,_)] ?_)
 all_goals (first | refine Br.ab ?_ | refine WC.region ?_)
 all_goals (refine Go ?_;first | refine Br.ab ?_ | (exact ⟨(j2+1,T2++[y]),⟨rfl,rfl,rfl,rfl,rfl,rfl,rfl,trivial⟩,(by exact ⟨by omega,by rw [List.length_append];dsimp only;simp;omega,(Ba.aq IB).aq xz,(H5.trans IB).trans xz⟩),(by dsimp only;omega)⟩))
 all_goals (try (refine Br.mk (i:=1004) ?_))
 all_goals (refine Gn ?_;first | refine Br.ab ?_ | refine Gs [(0,_),(1,_),(5,_),(6,_),(7,_),(8,_)] ?_)
 all_goals (first | refine Br.ab ?_ | refine WC.region ?_)
 all_goals (first | refine Br.ab ?_ | (first | (exfalso;omega) | skip))
 all_goals (first | refine Br.ab ?_ | refine WL.step (ak rfl) rfl rfl rfl ?_)
 all_goals (refine Go ?_;first | refine Br.ab ?_ | (exact ⟨(i+1,a+z,n5,T2),⟨rfl,rfl,rfl,rfl,rfl,rfl,trivial⟩,(by exact ⟨by dsimp only;omega,by dsimp only;omega,(Dc.AP Ba).aq IB,H5.trans IB,fun e=>Dc.fin gs Ba (Ho (by omega))⟩),(by dsimp only;omega)⟩))
 try (refine Br.mk (i:=1000) ?_)
 refine Gn ?_;refine Gs [(6,_)] ?_;refine G2 ?_;refine Gt ?_
 exact ⟨by rw [hT (by omega)],X3⟩
theorem xA (w:World):dS Tryz.prog w 22 (fun p:Value × List Fm=>[p.1]) (fun p=>EF w.heap p.1 p.2) :=
 (dK Tryz.underlying22 (by kernel_rfl) (by decide) Fm.len (yI w)).map id (fun _=>rfl) fun p q=>⟨q.1,q.2.1,fun f hf=>(q.2.2.2.1 f hf).1⟩
noncomputable def sU (L:List Fm):List Fm:=L.filter fun f=>@decide f.may (Classical.propDecidable _)
theorem sV (L:List Fm):vV (uM L)=lE (sU L):=by
 unfold vV uM lE sU
 induction L with
 | nil=>rfl
 | cons f L ih =>
   rw [List.flatMap_cons,List.flatMap_append,ih,List.filter_cons]
   by_cases h:f.may
   · rw [@if_pos _ (Classical.propDecidable _) h,if_pos (@decide_eq_true _ (Classical.propDecidable _) h),List.flatMap_cons]
     simp
   · rw [@if_neg _ (Classical.propDecidable _) h,if_neg (by rw [@decide_eq_false _ (Classical.propDecidable _) h];decide)]
     simp
theorem Gi {L:List Fm} (h1:(L.length:Int)≤20) (h2:∀ f∈L,f.vR) (h3:(dZ (sU L)).length≤3000):ta (sU L) :=
 ⟨fun f hf=>by
   obtain ⟨h,m⟩:=List.mem_filter.1 hf
   exact ⟨h2 f h,@of_decide_eq_true _ (Classical.propDecidable _) m⟩,by have:(sU L).length≤L.length:=List.length_filter_le _ _;omega,h3⟩
theorem qL {b:Bk} (h:b.may):eD b.p=[(b.kind,eh b)]:=by
 have e:(xl b.p).p=b.p:=uB _
 unfold eD
 rw [if_pos (uC e.symm h),vL e]
 rfl
theorem xB:∃ l1 l2 l3,gi=[(82,l1),(75,l2),(90,l3)]:=by
 have e:gi=eD (gB 82 0 0 0).p++(eD (gB 75 0 1 7919).p++(eD (gB 90 73 0 0).p++[])):=rfl
 rw [qL Ei,qL Ej,qL Ek] at e
 exact ⟨_,_,_,e⟩
theorem po {k:Int} {v:Value} {xs:List Value} (hv:v.oneCell'=true) (hx:∀ x∈xs,x.oneCell'=true):∀ x∈Value.int .u8 k :: v :: xs,x.oneCell'=true:=fun x h=>by
 simp only [List.mem_cons] at h
 rcases h with rfl | rfl | h
 · rfl
 · exact hv
 · exact hx x h
theorem pq:∀ x∈([]:List Value),x.oneCell'=true:=fun _ h=>by cases h
theorem nP {h:ah}:ag Tryz.prog 7 ⟨[]⟩ h fun u h'=>u=.bool true∧Ext No h h':=by
 refine calls [] Tryz.func7 rfl Tryz.ntmps7 rfl trivial ?_
 refine G2 ?_;refine WC.sr ?_;refine WL.call (vs:=[]) rfl Tryz.call24 rfl (vn) rfl rfl rfl ?_
 rintro _ h1 ⟨be,me,rfl,_,_,_,_,az⟩
 refine WL.call (vs:=[_,_,_]) rfl Tryz.call23 rfl (EI) rfl rfl rfl ?_
 rintro _ h2 ⟨b,fb,s,rfl,py,Be,hgb,hgf,aI⟩
 have l1:=az.size
 have X2:=az.trans aI
 have vO:b ≠ fb:=fun e=>by have:=Be.bn;rw [← e,py] at this;simp at this
 refine Go ?_;refine G3 ?_;refine WL.step (fv Tryz.underlying44 rfl rfl) rfl rfl rfl (Go ?_)
 refine bK 14 ?_ TT.mk
 refine Gg ?_;refine WL.call (vs:=[]) rfl Tryz.call8 rfl (oG) rfl rfl rfl ?_
 rintro v3 h3 ⟨dN,aQ,gR⟩
 have I7:=aQ.obj py aO
 have X3:=X2.trans aQ
 obtain ⟨A3,c3,rfl,_⟩:=id dN.slice
 refine WL.call (vs:=[_,_]) rfl Tryz.call25 rfl (vq (m:=di) I7 (Be.aq aQ) dN.rd (by decide)) rfl rfl rfl ?_
 rintro _ h4 ⟨rfl,v4,Bj,aW,r7⟩
 have Bj:Fw h4 fb false v4 di:=Bj
 have wv:=aW.obj I7 (fun e=>e.elim vO (fun e=>by cases e))
 have l3:=X3.size
 have X4:=X3.trans' aW (fun q hq e=>e.elim (fun e=>by omega) (fun e=>by cases e))
 have LI:∀ q,v4.ownBlock=some q→h.size≤q:=fun q hq=>(r7 q hq).elim (fun e=>by cases e) (fun e=>by omega)
 refine Gg ?_;refine Go ?_;refine Gs [(1,_),(19,_)] ?_
 refine aH 1 2 ?_ TT.mk
 all_goals (refine aw 2 ?_)
 refine WC.skip ?_;refine Gn ?_;refine G2 ?_;refine WL.call (vs:=[_]) rfl Tryz.call26 rfl (ny (r:=[]) wv (by rw [List.append_nil];exact Bj) (by decide)) rfl rfl rfl ?_
 rintro _ h5 ⟨rfl,w5,M5,v5,GC,Kr,I9,HS,aM,fN,HT,OW⟩
 obtain ⟨l1,l2,l3,eg⟩:=xB
 obtain ⟨m1,m2,m3,rfl⟩:∃ m1 m2 m3,M5=[m1,m2,m3]:=by
  rw [eg] at GC
  rcases M5 with _ | ⟨m1,_ | ⟨m2,_ | ⟨m3,_ | ⟨m4,M⟩⟩⟩⟩ <;> simp_all
 obtain ⟨k1,v1,b1⟩:=m1
 obtain ⟨k2,v2,b2⟩:=m2
 obtain ⟨k3,v3,b3⟩:=m3
 rw [eg] at GC
 simp only [List.map_cons,List.map_nil,mi.pl,List.cons.injEq,Prod.mk.injEq] at GC
 obtain ⟨⟨rfl,-⟩,⟨rfl,-⟩,⟨rfl,-⟩,-⟩:=GC
 have fi:=hU (I9.bod (82,v1,b1) (by simp))
 have kJ:=hU (I9.bod (75,v2,b2) (by simp))
 have Ja:=hU (I9.bod (90,v3,b3) (by simp))
 have eE:Own h5 w5 53 2 3 [.int .u8 82,v1,.int .u8 75,v2,.int .u8 90,v3]:=I9.row
 have l4:=X4.size
 have X5:=X4.trans' aM (fun q hq e=>by rcases e with e | e | e;omega;omega;have:=LI q e;omega)
 refine Gn ?_;refine G2 ?_;refine WL.call (vs:=[_]) rfl Tryz.call27 rfl (kE Kr eE fi (po kJ (po Ja pq)) (by decide)) rfl rfl rfl ?_
 rintro _ h6 ⟨rfl,w6,GB,gn,aN,iH⟩
 have X6:=X5.trans' aN (fun q hq e=>by rcases e with e | e;omega;have:=fN q e;omega)
 have l5:=X5.size
 have ET:∀ q,w6.ownBlock=some q→h.size≤q:=fun q hq=>by rw [iH] at hq;have:=fN q hq;omega
 refine Go ?_;refine WL.aj (an (fun w=>Tryz.zeroValue53 w)) rfl rfl rfl ?_
 rintro _ h7 ⟨b2,rfl,xC,ca,ba⟩
 refine WL.ax (al Tryz.sizeOf53 rfl rfl rfl ca rfl (po fi pq)) rfl rfl ?_
 rintro _ h8 ⟨bE,bz⟩
 have Y8:Ext No h6 h8:=ba.trans' bz (fun q hq e=>by omega)
 have X8:=X6.trans Y8
 have vN:=Y8.obj GB aO
 have jK:=gn.ext Y8 (fun _ _=>aO)
 have OX:h.size≤b2:=by have:=X6.size;omega
 refine Go ?_;refine Gs [(1,_),(2,_),(3,_)] ?_;refine G2 ?_;refine WL.call (vs:=[_]) rfl Tryz.call27 rfl (kE vN jK kJ (po Ja pq) (by decide)) rfl rfl rfl ?_
 rintro _ h9 ⟨rfl,w9,uE,DW,bZ,vX⟩
 have X9:=X8.trans' bZ (fun q hq e=>by rcases e with e | e;omega;have:=ET q e;omega)
 have Me:=ai bE
 have LU:w6.ownBlock ≠ some b2:=fun e=>by have:=gn.lt e;omega
 have LV:b2 ≠ b:=fun e=>by have:=ai GB;omega
 have bY:=bZ.obj bE (fun e=>e.elim LV LU)
 have NR:∀ q,w9.ownBlock=some q→h.size≤q:=fun q hq=>by rw [vX] at hq;exact ET q hq
 refine Go ?_;refine WL.aj (an (fun w=>Tryz.zeroValue53 w)) rfl rfl rfl ?_
 rintro _ iG ⟨b4,rfl,FI,fH,ct⟩
 refine WL.ax (al Tryz.sizeOf53 rfl rfl rfl fH rfl (po kJ pq)) rfl rfl ?_
 rintro _ qg ⟨oy,cM⟩
 have Jb:Ext No h9 qg:=ct.trans' cM (fun q hq e=>by omega)
 have FK:=X9.trans Jb
 have KP:=Jb.obj uE aO
 have uF:=DW.ext Jb (fun _ _=>aO)
 have KQ:=Jb.obj bY aO
 refine Go ?_;refine Gs [(1,_),(2,_),(3,_),(4,_),(5,_)] ?_;refine G2 ?_;refine WL.call (vs:=[_]) rfl Tryz.call27 rfl (kE KP uF Ja pq (by decide)) rfl rfl rfl ?_
 rintro _ qR ⟨rfl,OY,KR,F4,ew,NS⟩
 have GG:=FK.trans' ew (fun q hq e=>by rcases e with e | e;omega;have:=NR q e;omega)
 have NT:b4 ≠ b:=fun e=>by have:=ai uE;omega
 have bT:=ew.obj oy (fun e=>e.elim NT (fun e=>by have:=DW.lt e;omega))
 have KS:=ew.obj KQ (fun e=>e.elim LV (fun e=>LU (vX▸e)))
 refine Go ?_;refine WL.aj (an (fun w=>Tryz.zeroValue53 w)) rfl rfl rfl ?_
 rintro _ Ft ⟨b6,rfl,NU,cw,gu⟩
 refine WL.ax (al Tryz.sizeOf53 rfl rfl rfl cw rfl (po Ja pq)) rfl rfl ?_
 rintro _ CA ⟨bJ,il⟩
 have Jc:Ext No qR CA:=gu.trans' il (fun q hq e=>by omega)
 have gH:=GG.trans Jc
 obtain ⟨OZ,O0,rfl,_⟩:=id F4.slice
 have IC:=Jc.obj KR aO
 have KT:=Jc.obj bT aO
 have fe:=Jc.obj KS aO
 refine Go ?_;refine Gs [(1,_),(2,_),(3,_),(4,_),(5,_),(6,_),(7,_)] ?_;refine G2 ?_;refine WL.call (vs:=[_]) rfl Tryz.call27 rfl (lD IC) rfl rfl rfl ?_
 rintro _ HK ⟨rfl,qi⟩
 refine Go ?_;refine WL.aj (an (fun w=>Tryz.zeroValue53 w)) rfl rfl rfl ?_
 rintro _ NQ ⟨b8,rfl,Hc,dx,xz⟩
 refine WL.ax (al Tryz.sizeOf53 rfl rfl rfl dx rfl (by simp [Value.oneCell'])) rfl rfl ?_
 rintro _ NV ⟨kU,KU⟩
 have ID:Ext No CA NV:=(qi.trans xz).trans' KU (fun q hq e=>by have:=qi.size;omega)
 have H6:=gH.trans ID
 have KV:=ID.obj IC aO
 have KW:=ID.obj fe aO
 have KX:=ID.obj KT aO
 have KY:=ID.obj bJ aO
 refine Go ?_;refine Gs [(1,_),(2,_),(3,_),(4,_),(5,_),(6,_),(7,_),(9,_)] ?_;refine G2 ?_
 refine bK 43 ?_ TT.mk
 refine Gg ?_;refine Go ?_
 refine bK 46 ?_ TT.mk
 refine Gg ?_;refine Go ?_
 refine bK 49 ?_ TT.mk
 refine Gg ?_;refine Go ?_
 refine bK 53 ?_ TT.mk
 refine Gg ?_;refine WL.ld rfl (by first | exact aa KW rfl | assumption) rfl rfl rfl ?_
 refine Gg ?_;refine Go ?_
 refine bK 58 ?_ TT.mk
 refine Gg ?_;refine WL.ld rfl (by first | exact aa KX rfl | assumption) rfl rfl rfl ?_
 refine Gg ?_;refine Go ?_
 refine bK 63 ?_ TT.mk
 refine Gg ?_;refine WL.ld rfl (by first | exact aa KY rfl | assumption) rfl rfl rfl ?_
 refine Gg ?_;refine Go ?_
 refine bK 68 ?_ TT.mk
 refine Gg ?_;refine WL.call (vs:=[_]) rfl Tryz.call28 rfl (BT KV) rfl rfl rfl ?_
 rintro _ hq ⟨rfl,hz⟩
 replace hz:=hz.symm
 subst hz
 refine Gg ?_;refine Go ?_;refine Gs [(0,_)] ?_;refine Gt ?_
 exact ⟨rfl,H6⟩
def kH:List (String × DataW Unit):=Rows.servePiecesRow.laid.filter fun x=>x.2.handleName?.isNone
noncomputable def pr (os:Os):World :=
 let w0:=World.holding Tryz.prog os ⟨#[],#[],[]⟩
 { w0 with heap := w0.heap.modify 0 fun
     | .cells _ t frozen=>.cells #[.iface 290 (.agg #[.pointer (some ⟨4,165,none⟩)])] t frozen
     | o=>o }
noncomputable def jf (os:Os):World:=(pr os).layVars Tryz.prog kH
theorem qM (os:Os):(jf os).os=os:=World.layVars_os _ _ _
theorem oz (os:Os) (args:Array Value):laidMetH Tryz.prog Rows.servePiecesRow.laid ((jf os).forCall (fun _ _=>0) ⟨#[],args,[]⟩).memory:=by
 have e1:(kH.filter fun x=>(kH.map (·.1)).contains x.1)=kH:=List.filter_eq_self.2 fun x hx=>List.contains_iff_mem.2 (List.mem_map.2 ⟨x,hx,rfl⟩)
 have e2:(kH.filter fun x => !(kH.map (·.1)).contains x.1)=[]:=List.filter_eq_nil_iff.2 fun x hx=>by rw [List.contains_iff_mem.2 (List.mem_map.2 ⟨x,hx,rfl⟩)];simp
 have h:laidMet Tryz.prog kH (jf os):=laidMet_layVars (w0:=pr os) (kH.map (·.1)) [] (by rw [e1];rfl) (by rw [e1];kernel_rfl) (by rw [e1];kernel_rfl) (by rw [e2];exact LaidIn.none)
 exact laidMetH_of_parts (h.of_heap (by simp [World.memory,World.forCall,Input.heap])) (by kernel_rfl)
theorem De {W:World} (h:laidMetH Tryz.prog Rows.servePiecesRow.laid W):Er W.heap:=by
 have h':laidMet Tryz.prog kH W∧handlesMet Tryz.prog (Rows.servePiecesRow.laid.filter fun x=>x.2.handleName?.isSome) W:=h
 obtain ⟨name,u,ty,e1,e2,e3,e4,e5⟩:=h'.2 _ (List.mem_singleton.2 rfl)
 have en:name=[101,114,114,111,114]:=(Option.some.inj e1).symm
 subst en
 obtain rfl:=Option.some.inj (HN.symm.trans e2)
 have hm:ty∈(List.range 412).filter fun t=>Tryz.prog.rowNamed t [101,114,114,111,114]:=List.mem_filter.2 ⟨List.mem_range.2 (by rw [← CE];exact e3),e4⟩
 rw [FC] at hm
 obtain rfl:=List.mem_singleton.1 hm
 have hh:typeHandle Tryz.prog 165=.pointer (some ⟨4,165,none⟩):=by kernel_rfl
 rw [hh] at e5
 have hc:W.cell? ⟨0,0,none⟩=some (.iface 290 (.agg #[.pointer (some ⟨4,165,none⟩)])):=by simpa using World.var?_cell HM e5 0
 intro j v hj
 rcases j with _ | j
 · simp only [List.getElem?_cons_zero,Option.some.injEq] at hj
   subst hj
   exact hc
 · simp at hj
end Go.Proofs.YtopgddfgefnmbaaGreatDoor
