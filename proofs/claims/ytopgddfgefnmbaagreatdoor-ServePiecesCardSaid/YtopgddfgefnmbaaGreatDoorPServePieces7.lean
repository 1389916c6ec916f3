/-
  SEVERAL TEXTS IN ONE: Qv9, FsO, Qw1, SeP.
-/
import Derived.Test.YtopgddfgefnmbaaGreatDoorPServePieces6
import Derived.Test.YtopgddfgefnmbaaGreatDoorRows
import Derived.Lay
import Derived.LaidLaws
import Derived.LaidHandle
import Derived.Stop.Joined
set_option maxHeartbeats 8000000
set_option maxRecDepth 100000
namespace Go.Proofs.YtopgddfgefnmbaaGreatDoor
open Go Go.RK
theorem Gq {h:ah} {A:Option Addr} {c:Nat} {B:List UInt8} (r:Rd h (.slice A B.length c) 1 B.length (bA B)) {a z:Nat} (hz:a+z≤B.length):Rd h (.slice (if c=a then A else A.map (·.add (a * 1))) (a+z - a) (c - a)) 1 ((B.drop a).take z).length (bA ((B.drop a).take z)):=by
 obtain ⟨A',c',e,r'⟩:=oC r (l:=a) (k:=a+z) (by omega) hz
 simp only [Value.slice.injEq] at e
 obtain ⟨rfl,_,rfl⟩:=e
 have hl:((B.drop a).take z).length=a+z - a:=by rw [List.length_take,List.length_drop];omega
 have he:((bA B).drop (a * 1)).take ((a+z - a) * 1)=bA ((B.drop a).take z):=by rw [Nat.mul_one,Nat.mul_one,Nat.add_sub_cancel_left];simp only [bA,List.map_take,List.map_drop]
 rw [hl,← he]
 exact r'
theorem D7 {h:ah} {vb vs:Value} {ss:List UInt8} {fs:List Fm} (gs:tb fs) (er:Er h) (hB:Rd h vb 1 (dZ fs).length (bA (dZ fs))) (hs:Rd h vs 1 ss.length (bA ss)) (hl:ss.length≤100) :
   ag Tryz.prog 10 ⟨[vb,vs]⟩ h fun u h'=>u=St (Bd (nO fs))∧Ext No h h':=by
 have xx:=er.pos
 have hfn:=gs.n
 have hfl:=gs.l
 obtain ⟨A,c,rfl,hcB,_⟩:=id hB
 obtain ⟨A2,c2,rfl,_⟩:=id hs
 refine calls [(0,_),(1,_)] Tryz.func10 rfl Tryz.ntmps10 rfl ⟨rfl,rfl,trivial⟩ ?_
 refine G2 ?_;refine WC.sr ?_;refine WL.call (vs:=[]) rfl Tryz.call24 rfl (vu) rfl rfl rfl ?_
 rintro _ h1 ⟨be,me,rfl,hbe,hme,hge,hgm,az⟩
 refine WL.call (vs:=[_,_,_]) rfl Tryz.call23 rfl (ID hbe hme az (by omega)) rfl rfl rfl ?_
 rintro _ h2 ⟨b,rfl,N0,aI⟩
 have k0:Vv h h2 b fs 0 [] 0 false:=.inl ⟨by simpa using N0,rfl,rfl,fun z=>nomatch z⟩
 have X2:=az.trans aI
 refine Go ?_;refine G2 ?_;refine G2 ?_;refine G3 ?_;refine WC.block ?_;refine WC.bD (X:=Nat × Nat × Nat × List (Int × List UInt8)) (fun x=>([(6,St (Bd x.2.2.2)),(7,In (x.2.1:Int)),(8,In (x.1:Int))]:Fr)) [(0,_),(1,_),(5,_)] (fun x h'=>x.1≤ss.length+1∧x.2.1≤(dZ fs).length∧Vv h h' b fs x.2.1 x.2.2.2 x.2.2.1 false∧Ext No h h'∧(x.1=ss.length+1→x.2.2.2=nO fs)) (fun x=>ss.length+1 - x.1) ((0,0,0,[])) ⟨rfl,rfl,rfl,rfl,rfl,rfl,trivial⟩ (by exact ⟨by omega,Nat.zero_le _,k0,X2,fun z=>by dsimp only at z;omega⟩) ?_
 rintro ⟨i,a,n,T⟩ h3 ⟨hi,ha,kv,X3,hT⟩
 dsimp only at hi ha kv hT
 refine WC.sub [(6,_),(7,_),(8,_),(0,_),(1,_),(5,_)] ⟨rfl,rfl,rfl,rfl,rfl,rfl,trivial⟩ ?_
 dsimp only
 refine G3 ?_
 refine aH 1 2 (Hb.mk fun hb=>?_) (Hb.mk fun hb=>?_)
 all_goals try (
 refine aw 1 ?_
 refine WC.skip ?_
 skip)
 all_goals try (
 refine aw 2 ?_
 refine WC.exit ?_
 repeat' (with_reducible first | refine aU ?_ | refine aD rfl ?_ | refine aJ ?_ | refine aL ?_ | refine aS ?_)
 refine Br.out (i:=1000) ?_
 skip)
 all_goals (refine Gn ?_;first | refine Br.ab ?_ | refine Gs [(0,_),(1,_),(5,_),(6,_),(7,_),(8,_)] ?_)
 all_goals (first | refine Br.ab ?_ | refine WC.seq ?_)
 all_goals (first | refine Br.ab ?_ | refine WC.block ?_)
 all_goals (first | refine Br.ab ?_ | refine WC.sr ?_)
 all_goals (first | refine Br.ab ?_ | refine WL.step (ak rfl) rfl rfl rfl ?_)
 all_goals (first | refine Br.ab ?_ | refine WL.step (cq rfl Tryz.underlying23 rfl) rfl rfl rfl ?_)
 all_goals (first | refine Br.ab ?_ | refine WL.step (ak rfl) rfl rfl rfl ?_)
 all_goals (first | refine Br.ab ?_ | (refine WL.step (eY rfl rfl (by omega)) rfl rfl rfl ?_))
 all_goals (first | refine Br.ab ?_ | (rw [show (((dZ fs).length:Nat):Int) - (a:Int)=(((dZ fs).length - a:Nat):Int) by omega]))
 all_goals (refine Go ?_;first | refine Br.ab ?_ | refine Gs [(0,_),(1,_),(5,_),(6,_),(7,_),(8,_),(9,_)] ?_)
 refine WC.cut (X:=Nat) (fun z=>[(0,.slice A (dZ fs).length c),(1,.slice A2 ss.length c2),(5,.pointer (some ⟨b,0,none⟩)),(6,St (Bd T)),(7,In (a:Int)),(8,In (i:Int)),(9,In (z:Int))]) (fun z h'=>z≤(dZ fs).length - a∧(i=ss.length→a+z=(dZ fs).length)∧h'=h3) ?_ ?_
 ·
   refine G2 ?_
   refine aH 3 4 (Hb.mk fun hb=>?_) (Hb.mk fun hb=>?_)
   all_goals try (
   refine aw 3 ?_
   refine WC.region (Go ?_)
   obtain ⟨bS,oS,hSA,hbS,hatS⟩:=Rd.at_ (hs.aq X3) (by omega)
   subst hSA
   obtain ⟨y,hy⟩:∃ y,ss[i]?=some y:=⟨_,List.getElem?_eq_getElem (by omega)⟩
   have Mb:=y.toNat_lt
   have hcd:cell h3 ⟨bS,oS+i * 1,none⟩=some (By y):=by rw [Nat.mul_one];exact hatS.one (j:=i) (by simp [hy])
   refine WL.step (aE Tryz.underlying23 Tryz.sizeOf5 rfl rfl rfl (by omega) (by first | rfl | assumption)) rfl rfl rfl ?_
   refine WL.ld rfl (by first | exact hcd | assumption) rfl rfl rfl ?_
   refine WL.step (j4 Tryz.underlying5 Tryz.underlying3 rfl (by omega)) rfl rfl rfl ?_
   refine WL.step (j1 rfl rfl) rfl rfl rfl ?_
   rw [show (if (y.toNat:Int) < (((dZ fs).length - a:Nat):Int) then (y.toNat:Int) else (((dZ fs).length - a:Nat):Int))=((min ((dZ fs).length - a) y.toNat:Nat):Int) by split <;> omega]
   refine Go ?_
   skip)
   all_goals try (
   refine aw 4 ?_
   refine WC.skip ?_
   skip)
   all_goals (refine Gn ?_;refine ⟨_,⟨rfl,rfl,rfl,rfl,rfl,rfl,rfl,trivial⟩,?_⟩;exact ⟨by omega,fun e=>by omega,rfl⟩)
 rintro z h4 ⟨iV,Hx,hz⟩;subst hz
 all_goals (first | refine Br.ab ?_ | refine WC.sr ?_)
 all_goals (refine Go ?_;first | refine Br.ab ?_ | (refine WL.step (cW (l:=a) (k:=a+z) Tryz.underlying23 Tryz.sizeOf5 rfl rfl rfl (by omega)) rfl rfl rfl ?_))
 all_goals (
  first
    | (refine Br.ab ?_)
    | (refine WL.call (vs:=[_,_]) rfl Tryz.call25 rfl (Gm gs kv rfl (Gq (hB.aq X3) (by omega))) rfl rfl rfl ?_
       rintro v4 h4 ⟨N1,aW⟩
       have X4:Ext No h h4:=X3.trans' aW (fun q hq (e:h.size≤q)=>by omega)))
 all_goals (refine Gn ?_;first | refine Br.ab ?_ | refine Gs [(0,_),(1,_),(5,_),(6,_),(7,_),(8,_),(9,_)] ?_)
 all_goals (first | refine Br.ab ?_ | refine WC.sr ?_)
 all_goals (refine Go ?_;first | refine Br.ab ?_ | refine Gs [(0,_),(1,_),(5,_),(6,_),(7,_),(8,_)] ?_)
 all_goals (first | refine Br.ab ?_ | refine WC.seq ?_)
 all_goals (first | refine Br.ab ?_ | refine WC.sr ?_)
 all_goals (refine Go ?_;first | refine Br.ab ?_ | refine WC.block ?_)
 all_goals (first | refine Br.ab ?_ | (refine WC.bD (X:=Nat × Nat) (fun x=>([(50,In (x.1:Int))]:Fr)) [(0,_),(1,_),(5,_),(6,_),(7,_),(8,_)] (fun x h'=>x.1≤700∧x.1≤x.2∧Vv h h' b fs (a+z) T x.2 false∧Ext No h h') (fun x=>700 - x.1) ((0,n)) ⟨rfl,rfl,rfl,rfl,rfl,rfl,rfl,trivial⟩ (by exact ⟨by omega,Nat.zero_le _,N1,X4⟩) ?_))
 all_goals (
  first
    | (refine Br.ab ?_)
    | (rintro ⟨j,n5⟩ h5 ⟨hj,hjn,KY,X5⟩
       dsimp only at hj hjn KY
       have Gz:=KY.le))
 all_goals (first | refine Br.ab ?_ | refine WC.sub [(50,_),(0,_),(1,_),(5,_),(6,_),(7,_),(8,_)] ⟨rfl,rfl,rfl,rfl,rfl,rfl,rfl,trivial⟩ ?_)
 all_goals (first | refine Br.ab ?_ | dsimp only)
 all_goals (first | refine Br.ab ?_ | refine WC.sr ?_)
 all_goals (refine Go ?_;first | refine Br.ab ?_ | refine WC.seq ?_)
 all_goals (first | refine Br.ab ?_ | refine aH 5 6 ?_ TT.mk)
 all_goals try (
 refine aw 5 ?_
 refine WC.skip ?_
 skip)
 all_goals (refine Gn ?_;first | refine Br.ab ?_ | refine WC.seq ?_)
 all_goals (first | refine Br.ab ?_ | refine WC.block ?_)
 all_goals (first | refine Br.ab ?_ | refine WC.sr ?_)
 all_goals (refine Go ?_)
 all_goals (
  first
    | (refine Br.ab ?_)
    | (refine WL.call (vs:=[_]) rfl Tryz.call26 rfl (II gs (er.aq X5) xx KY) rfl rfl rfl ?_
       rintro _ h6 ⟨⟨g6,HK,rfl,KZ,k6⟩,aN⟩
       have X6:Ext No h h6:=X5.trans' aN (fun q hq (e:h.size≤q)=>by omega)))
 all_goals (refine Go ?_)
 all_goals (
  first
    | (refine Br.ab ?_)
    | (refine WL.aj (an (fun w=>Tryz.zeroValue42 w)) rfl rfl rfl ?_
       rintro _ h7 ⟨LJ,rfl,xG,ca,ba⟩))
 all_goals (
  first
    | (refine Br.ab ?_)
    | (refine WL.ax (al Tryz.sizeOf42 rfl rfl rfl ca rfl KZ) rfl rfl ?_
       rintro _ h8 ⟨bE,bz⟩
       have Jj:Ext No h6 h8:=ba.trans' bz (fun q hq e=>by omega)
       have X8:=X6.trans Jj
       rcases k6 with ⟨rfl,ek,k6⟩ | ⟨rfl,N2⟩))
 all_goals (refine Go ?_;first | refine Br.ab ?_ | refine Gs [(0,_),(1,_),(5,_),(6,_),(7,_),(8,_),(10,_),(11,_),(50,_)] ?_)
 all_goals (first | refine Br.ab ?_ | refine WC.sr ?_)
 all_goals (refine Go ?_;first | refine Br.ab ?_ | refine bK 59 ?_ TT.mk)
 all_goals (refine Gg ?_;first | refine Br.ab ?_ | (first | (refine WL.pass rfl rfl rfl ?_) | (refine WL.ld rfl (by first | exact aa bE rfl | assumption) rfl rfl rfl ?_)))
 all_goals (refine Gg ?_;refine Go ?_;first | refine Br.ab ?_ | refine Gs [(0,_),(1,_),(5,_),(6,_),(7,_),(8,_),(50,_),(63,_)] ?_)
 all_goals (first | refine Br.ab ?_ | refine aH 7 8 ?_ TT.mk)
 all_goals try (
 refine aw 7 ?_
 refine G2 ?_;refine WL.call (vs:=[_]) rfl Tryz.call26 rfl (IJ gs (er.aq X8) xx (k6.imp (fun k=>k.aq Jj) (fun k=>k.aq Jj))) rfl rfl rfl ?_
 rintro _ h9 ⟨⟨g9,I6,rfl,K0,k9⟩,bZ⟩
 have X9:Ext No h h9:=X8.trans' bZ (fun q hq (e:h.size≤q)=>by omega)
 refine Go ?_;refine WL.aj (an (fun w=>Tryz.zeroValue42 w)) rfl rfl rfl ?_
 rintro _ iG ⟨DS,rfl,FQ,fI,ct⟩
 refine WL.ax (al Tryz.sizeOf42 rfl rfl rfl fI rfl K0) rfl rfl ?_
 rintro _ qh ⟨oA,cM⟩
 have Gr:Ext No h9 qh:=ct.trans' cM (fun q hq e=>by omega)
 have FT:=X9.trans Gr
 rcases k9 with ⟨rfl,K1⟩ | ⟨rfl,K1⟩
 all_goals (refine Go ?_;refine Gs [(0,_),(1,_),(5,_),(6,_),(7,_),(8,_),(13,_),(50,_)] ?_;refine G2 ?_;refine aH 9 10 ?_ TT.mk)
 all_goals try (
 refine aw 9 ?_
 refine WC.exit ?_
 repeat' (with_reducible first | refine aU ?_ | refine aD rfl ?_ | refine aJ ?_ | refine aL ?_ | refine aS ?_)
 refine Br.out (i:=1002) ?_
 skip)
 all_goals try (
 refine aw 10 ?_
 refine WC.skip ?_
 skip)
 skip)
 all_goals try (
 refine aw 8 ?_
 refine WC.skip ?_
 skip)
 all_goals (refine Gn ?_;first | refine Br.ab ?_ | refine WC.region ?_)
 all_goals (refine Go ?_;first | refine Br.ab ?_ | (exact ⟨(j+1,n5+1),⟨rfl,rfl,rfl,rfl,rfl,rfl,rfl,trivial⟩,(by first | exact ⟨by omega,by omega,.inr (K1.aq Gr),FT⟩ | exact ⟨by omega,by omega,.inr (N2.aq Jj),X8⟩ | (exfalso;omega)),(by dsimp only;omega)⟩))
 all_goals (try (refine Br.mk (i:=1002) ?_))
 all_goals (refine Gn ?_;first | refine Br.ab ?_ | refine Gs [(0,_),(1,_),(5,_),(6,_),(7,_),(8,_)] ?_)
 all_goals (first | refine Br.ab ?_ | refine WC.sr ?_)
 all_goals (first | refine Br.ab ?_ | (first | (exfalso;omega) | skip))
 all_goals (first | refine Br.ab ?_ | refine WL.step (ak rfl) rfl rfl rfl ?_)
 all_goals (first | refine Br.ab ?_ | have kvI:=K1.aq Gr)
 all_goals (refine Gn ?_;first | refine Br.ab ?_ | refine WC.block ?_)
 all_goals (first | refine Br.ab ?_ | (refine WC.bD (X:=Nat × List (Int × List UInt8)) (fun x=>([(72,In (x.1:Int)),(6,St (Bd x.2))]:Fr)) [(0,_),(1,_),(5,_),(7,_),(8,_)] (fun x h'=>x.1≤5000∧x.1≤x.2.length∧Vv h h' b fs (a+z) x.2 n5 true∧Ext No h h') (fun x=>5000 - x.1) ((0,T)) ⟨rfl,rfl,rfl,rfl,rfl,rfl,rfl,trivial⟩ (by exact ⟨by omega,Nat.zero_le _,kvI,FT⟩) ?_))
 all_goals (
  first
    | (refine Br.ab ?_)
    | (rintro ⟨j2,T2⟩ qS ⟨N3,hjT,Dk,GO⟩
       dsimp only at N3 hjT Dk
       have hTl:=Dk.IK gs
       have hTx:=Dk.Bd gs))
 all_goals (first | refine Br.ab ?_ | refine WC.sub [(6,_),(72,_),(0,_),(1,_),(5,_),(7,_),(8,_)] ⟨rfl,rfl,rfl,rfl,rfl,rfl,rfl,trivial⟩ ?_)
 all_goals (first | refine Br.ab ?_ | dsimp only)
 all_goals (first | refine Br.ab ?_ | refine WC.sr ?_)
 all_goals (refine Go ?_;first | refine Br.ab ?_ | refine WC.seq ?_)
 all_goals (first | refine Br.ab ?_ | refine aH 11 12 ?_ TT.mk)
 all_goals try (
 refine aw 11 ?_
 refine WC.skip ?_
 skip)
 all_goals (refine Gn ?_;first | refine Br.ab ?_ | refine WC.seq ?_)
 all_goals (first | refine Br.ab ?_ | refine WC.block ?_)
 all_goals (first | refine Br.ab ?_ | refine WC.sr ?_)
 all_goals (refine Go ?_)
 all_goals (
  first
    | (refine Br.ab ?_)
    | (refine WL.call (vs:=[_]) rfl Tryz.call27 rfl (Gp gs Dk) rfl rfl rfl ?_
       rintro _ FD ⟨⟨rfl,Bj⟩ | ⟨y,m,rfl,hm,Bj⟩,gw⟩
       all_goals have Ig:Ext No h FD:=GO.trans' gw (fun q hq (e:h.size≤q)=>by omega)))
 all_goals (refine Go ?_)
 all_goals (
  first
    | (refine Br.ab ?_)
    | (refine WL.aj (an (fun w=>Tryz.zeroValue53 w)) rfl rfl rfl ?_
       rintro _ CH ⟨Pg,rfl,N4,bJ,il⟩))
 all_goals (
  first
    | (refine Br.ab ?_)
    | (refine WL.ax (al Tryz.sizeOf53 rfl rfl rfl bJ rfl (by intro x hx;simp only [List.mem_cons,List.not_mem_nil,or_false] at hx;rcases hx with rfl | rfl;rfl;first | exact hX hm | rfl)) rfl rfl ?_
       rintro _ HT ⟨db,qj⟩
       have IL:Ext No FD HT:=il.trans' qj (fun q hq e=>by omega)))
 all_goals (refine Go ?_;first | refine Br.ab ?_ | refine Gs [(0,_),(1,_),(5,_),(6,_),(7,_),(8,_),(14,_),(15,_),(72,_)] ?_)
 all_goals (first | refine Br.ab ?_ | refine WC.seq ?_)
 all_goals (first | refine Br.ab ?_ | refine WC.sr ?_)
 all_goals (refine Go ?_;first | refine Br.ab ?_ | refine aH 13 14 ?_ TT.mk)
 all_goals try (
 refine aw 13 ?_
 refine WC.exit ?_
 repeat' (with_reducible first | refine aU ?_ | refine aD rfl ?_ | refine aJ ?_ | refine aL ?_ | refine aS ?_)
 refine Br.out (i:=1004) ?_
 skip)
 all_goals try (
 refine aw 14 ?_
 refine WC.skip ?_
 skip)
 all_goals (refine Gn ?_;first | refine Br.ab ?_ | refine WC.region ?_)
 all_goals (
  first
    | (refine Br.ab ?_)
    | (have hyb:=Bj.body gs
       obtain ⟨L0,L4,rfl,_⟩:=id hm.slice))
 all_goals (first | refine Br.ab ?_ | refine WL.step (ak rfl) rfl rfl rfl ?_)
 all_goals (refine Go ?_;first | refine Br.ab ?_ | (refine WL.ld rfl (by first | exact aa db rfl | assumption) rfl rfl rfl ?_))
 all_goals (
  first
    | (refine Br.ab ?_)
    | (refine WL.aj (au (vs:=[_]) (cs:=[_]) (fun | [a0]=>[a0] | _=>[]) Tryz.underlying23 rfl rfl (by kernel_rfl)) rfl rfl rfl ?_
       rintro _ N5 ⟨MH,rfl,Hk,dx,xD⟩))
 all_goals (first | refine Br.ab ?_ | (refine WL.step (dM Tryz.underlying23 Tryz.underlying5 Tryz.underlying9 rfl (l:=[UInt8.ofNat y.1.toNat]) (bx (len:=1) (sz:=1) (cs:=bA [UInt8.ofNat y.1.toNat]) (by rw [show bA [UInt8.ofNat y.1.toNat]=[.int .u8 y.1] by simp only [bA,List.map_cons,List.map_nil,pk hyb.2]];exact dx) rfl)) rfl rfl rfl ?_))
 all_goals (refine Go ?_;first | refine Br.ab ?_ | (refine WL.ld rfl (by first | exact aa (xD.obj db aO) rfl | assumption) rfl rfl rfl ?_))
 all_goals (first | refine Br.ab ?_ | (refine WL.step (dM Tryz.underlying23 Tryz.underlying5 Tryz.underlying9 rfl ((hm.ext IL (fun _ _=>aO)).ext xD (fun _ _=>aO)).rd) rfl rfl rfl ?_))
 all_goals (first | refine Br.ab ?_ | (refine WL.step (dn rfl rfl (by first | (simp only [List.length_append,List.length_cons,List.length_nil];omega) | (simp;omega))) rfl rfl rfl ?_))
 all_goals (first | refine Br.ab ?_ | (refine WL.step (dn rfl rfl (by first | (simp only [List.length_append,List.length_cons,List.length_nil];omega) | (simp;omega))) rfl rfl rfl ?_))
 all_goals (first | refine Br.ab ?_ | rw [← Be])
 all_goals (refine Go ?_;first | refine Br.ab ?_ | refine Gs [(0,_),(1,_),(5,_),(6,_),(7,_),(8,_),(72,_)] ?_)
 all_goals (first | refine Br.ab ?_ | refine WC.region ?_)
 all_goals (refine Go ?_;first | refine Br.ab ?_ | (exact ⟨(j2+1,T2++[y]),⟨rfl,rfl,rfl,rfl,rfl,rfl,rfl,trivial⟩,(by exact ⟨by omega,by rw [List.length_append];dsimp only;simp;omega,(Bj.aq IL).aq xD,(Ig.trans IL).trans xD⟩),(by dsimp only;omega)⟩))
 all_goals (try (refine Br.mk (i:=1004) ?_))
 all_goals (refine Gn ?_;first | refine Br.ab ?_ | refine Gs [(0,_),(1,_),(5,_),(6,_),(7,_),(8,_)] ?_)
 all_goals (first | refine Br.ab ?_ | refine WC.region ?_)
 all_goals (first | refine Br.ab ?_ | (first | (exfalso;omega) | skip))
 all_goals (first | refine Br.ab ?_ | refine WL.step (ak rfl) rfl rfl rfl ?_)
 all_goals (refine Go ?_;first | refine Br.ab ?_ | (exact ⟨(i+1,a+z,n5,T2),⟨rfl,rfl,rfl,rfl,rfl,rfl,trivial⟩,(by exact ⟨by dsimp only;omega,by dsimp only;omega,(Dj.AY Bj).aq IL,Ig.trans IL,fun e=>Dj.fin gs Bj (Hx (by omega))⟩),(by dsimp only;omega)⟩))
 try (refine Br.mk (i:=1000) ?_)
 refine Gn ?_;refine Gs [(6,_)] ?_;refine G2 ?_;refine Gt ?_
 exact ⟨by rw [hT (by omega)],X3⟩
theorem xE (w:World):dS Tryz.prog w 22 (fun p:Value × List Fm=>[p.1]) (fun p=>EP w.heap p.1 p.2) :=
 (dK Tryz.underlying22 (by kernel_rfl) (by decide) Fm.len (yN w)).map id (fun _=>rfl) fun p q=>⟨q.1,q.2.1,fun f hf=>(q.2.2.2.1 f hf).1⟩
noncomputable def sV (L:List Fm):List Fm:=L.filter fun f=>@decide f.may (Classical.propDecidable _)
theorem sW (L:List Fm):vY (uO L)=lF (sV L):=by
 unfold vY uO lF sV
 induction L with
 | nil=>rfl
 | cons f L ih =>
   rw [List.flatMap_cons,List.flatMap_append,ih,List.filter_cons]
   by_cases h:f.may
   · rw [@if_pos _ (Classical.propDecidable _) h,if_pos (@decide_eq_true _ (Classical.propDecidable _) h),List.flatMap_cons]
     simp
   · rw [@if_neg _ (Classical.propDecidable _) h,if_neg (by rw [@decide_eq_false _ (Classical.propDecidable _) h];decide)]
     simp
theorem Gu {L:List Fm} (h1:(L.length:Int)≤20) (h2:∀ f∈L,f.vU) (h3:(dZ (sV L)).length≤3000):tb (sV L) :=
 ⟨fun f hf=>by
   obtain ⟨h,m⟩:=List.mem_filter.1 hf
   exact ⟨h2 f h,@of_decide_eq_true _ (Classical.propDecidable _) m⟩,by have:(sV L).length≤L.length:=List.length_filter_le _ _;omega,h3⟩
theorem qM {b:Bk} (h:b.may):eE b.p=[(b.kind,eh b)]:=by
 have e:(xp b.p).p=b.p:=uD _
 unfold eE
 rw [if_pos (uE e.symm h),vO e]
 rfl
theorem xF:∃ l1 l2 l3,gk=[(82,l1),(75,l2),(90,l3)]:=by
 have e:gk=eE (gB 82 0 0 0).p++(eE (gB 75 0 1 7919).p++(eE (gB 90 73 0 0).p++[])):=rfl
 rw [qM Et,qM Eu,qM Ev] at e
 exact ⟨_,_,_,e⟩
theorem pr {k:Int} {v:Value} {xs:List Value} (hv:v.oneCell'=true) (hx:∀ x∈xs,x.oneCell'=true):∀ x∈Value.int .u8 k :: v :: xs,x.oneCell'=true:=fun x h=>by
 simp only [List.mem_cons] at h
 rcases h with rfl | rfl | h
 · rfl
 · exact hv
 · exact hx x h
theorem pv:∀ x∈([]:List Value),x.oneCell'=true:=fun _ h=>by cases h
theorem nQ {h:ah}:ag Tryz.prog 7 ⟨[]⟩ h fun u h'=>u=.bool true∧Ext No h h':=by
 refine calls [] Tryz.func7 rfl Tryz.ntmps7 rfl trivial ?_
 refine G2 ?_;refine WC.sr ?_;refine WL.call (vs:=[]) rfl Tryz.call24 rfl (vu) rfl rfl rfl ?_
 rintro _ h1 ⟨be,me,rfl,_,_,_,_,az⟩
 refine WL.call (vs:=[_,_,_]) rfl Tryz.call23 rfl (ET) rfl rfl rfl ?_
 rintro _ h2 ⟨b,fb,s,rfl,pz,Bt,hgb,hgf,aI⟩
 have l1:=az.size
 have X2:=az.trans aI
 have vR:b ≠ fb:=fun e=>by have:=Bt.bm;rw [← e,pz] at this;simp at this
 refine Go ?_;refine G3 ?_;refine WL.step (fz Tryz.underlying44 rfl rfl) rfl rfl rfl (Go ?_)
 refine bK 14 ?_ TT.mk
 refine Gg ?_;refine WL.call (vs:=[]) rfl Tryz.call8 rfl (oI) rfl rfl rfl ?_
 rintro v3 h3 ⟨dN,aQ,gS⟩
 have Ji:=aQ.obj pz aO
 have X3:=X2.trans aQ
 obtain ⟨A3,c3,rfl,_⟩:=id dN.slice
 refine WL.call (vs:=[_,_]) rfl Tryz.call25 rfl (vv (m:=di) Ji (Bt.aq aQ) dN.rd (by decide)) rfl rfl rfl ?_
 rintro _ h4 ⟨rfl,v4,Bw,aW,r8⟩
 have Bw:Fw h4 fb false v4 di:=Bw
 have wz:=aW.obj Ji (fun e=>e.elim vR (fun e=>by cases e))
 have l3:=X3.size
 have X4:=X3.trans' aW (fun q hq e=>e.elim (fun e=>by omega) (fun e=>by cases e))
 have LX:∀ q,v4.ownBlock=some q→h.size≤q:=fun q hq=>(r8 q hq).elim (fun e=>by cases e) (fun e=>by omega)
 refine Gg ?_;refine Go ?_;refine Gs [(1,_),(19,_)] ?_
 refine aH 1 2 ?_ TT.mk
 all_goals (refine aw 2 ?_)
 refine WC.skip ?_;refine Gn ?_;refine G2 ?_;refine WL.call (vs:=[_]) rfl Tryz.call26 rfl (nz (r:=[]) wz (by rw [List.append_nil];exact Bw) (by decide)) rfl rfl rfl ?_
 rintro _ h5 ⟨rfl,w5,M5,v5,GL,KE,Jk,H2,aM,fO,H3,Ph⟩
 obtain ⟨l1,l2,l3,eg⟩:=xF
 obtain ⟨m1,m2,m3,rfl⟩:∃ m1 m2 m3,M5=[m1,m2,m3]:=by
  rw [eg] at GL
  rcases M5 with _ | ⟨m1,_ | ⟨m2,_ | ⟨m3,_ | ⟨m4,M⟩⟩⟩⟩ <;> simp_all
 obtain ⟨k1,v1,b1⟩:=m1
 obtain ⟨k2,v2,b2⟩:=m2
 obtain ⟨k3,v3,b3⟩:=m3
 rw [eg] at GL
 simp only [List.map_cons,List.map_nil,mj.pl,List.cons.injEq,Prod.mk.injEq] at GL
 obtain ⟨⟨rfl,-⟩,⟨rfl,-⟩,⟨rfl,-⟩,-⟩:=GL
 have fp:=hX (Jk.bod (82,v1,b1) (by simp))
 have kJ:=hX (Jk.bod (75,v2,b2) (by simp))
 have Jl:=hX (Jk.bod (90,v3,b3) (by simp))
 have eF:Own h5 w5 53 2 3 [.int .u8 82,v1,.int .u8 75,v2,.int .u8 90,v3]:=Jk.row
 have l4:=X4.size
 have X5:=X4.trans' aM (fun q hq e=>by rcases e with e | e | e;omega;omega;have:=LX q e;omega)
 refine Gn ?_;refine G2 ?_;refine WL.call (vs:=[_]) rfl Tryz.call27 rfl (kE KE eF fp (pr kJ (pr Jl pv)) (by decide)) rfl rfl rfl ?_
 rintro _ h6 ⟨rfl,w6,GK,gu,aN,iH⟩
 have X6:=X5.trans' aN (fun q hq e=>by rcases e with e | e;omega;have:=fO q e;omega)
 have l5:=X5.size
 have E2:∀ q,w6.ownBlock=some q→h.size≤q:=fun q hq=>by rw [iH] at hq;have:=fO q hq;omega
 refine Go ?_;refine WL.aj (an (fun w=>Tryz.zeroValue53 w)) rfl rfl rfl ?_
 rintro _ h7 ⟨b2,rfl,xG,ca,ba⟩
 refine WL.ax (al Tryz.sizeOf53 rfl rfl rfl ca rfl (pr fp pv)) rfl rfl ?_
 rintro _ h8 ⟨bE,bz⟩
 have Y8:Ext No h6 h8:=ba.trans' bz (fun q hq e=>by omega)
 have X8:=X6.trans Y8
 have vQ:=Y8.obj GK aO
 have jK:=gu.ext Y8 (fun _ _=>aO)
 have Pj:h.size≤b2:=by have:=X6.size;omega
 refine Go ?_;refine Gs [(1,_),(2,_),(3,_)] ?_;refine G2 ?_;refine WL.call (vs:=[_]) rfl Tryz.call27 rfl (kE vQ jK kJ (pr Jl pv) (by decide)) rfl rfl rfl ?_
 rintro _ h9 ⟨rfl,w9,uG,D3,bZ,wa⟩
 have X9:=X8.trans' bZ (fun q hq e=>by rcases e with e | e;omega;have:=E2 q e;omega)
 have Mv:=ai bE
 have Mc:w6.ownBlock ≠ some b2:=fun e=>by have:=gu.lt e;omega
 have Md:b2 ≠ b:=fun e=>by have:=ai GK;omega
 have bY:=bZ.obj bE (fun e=>e.elim Md Mc)
 have N6:∀ q,w9.ownBlock=some q→h.size≤q:=fun q hq=>by rw [wa] at hq;exact E2 q hq
 refine Go ?_;refine WL.aj (an (fun w=>Tryz.zeroValue53 w)) rfl rfl rfl ?_
 rintro _ iG ⟨b4,rfl,FQ,fI,ct⟩
 refine WL.ax (al Tryz.sizeOf53 rfl rfl rfl fI rfl (pr kJ pv)) rfl rfl ?_
 rintro _ qh ⟨oA,cM⟩
 have Jm:Ext No h9 qh:=ct.trans' cM (fun q hq e=>by omega)
 have FT:=X9.trans Jm
 have K2:=Jm.obj uG aO
 have uH:=D3.ext Jm (fun _ _=>aO)
 have K3:=Jm.obj bY aO
 refine Go ?_;refine Gs [(1,_),(2,_),(3,_),(4,_),(5,_)] ?_;refine G2 ?_;refine WL.call (vs:=[_]) rfl Tryz.call27 rfl (kE K2 uH Jl pv (by decide)) rfl rfl rfl ?_
 rintro _ qS ⟨rfl,Pk,K4,Gc,ey,N7⟩
 have GO:=FT.trans' ey (fun q hq e=>by rcases e with e | e;omega;have:=N6 q e;omega)
 have N8:b4 ≠ b:=fun e=>by have:=ai uG;omega
 have bT:=ey.obj oA (fun e=>e.elim N8 (fun e=>by have:=D3.lt e;omega))
 have K5:=ey.obj K3 (fun e=>e.elim Md (fun e=>Mc (wa▸e)))
 refine Go ?_;refine WL.aj (an (fun w=>Tryz.zeroValue53 w)) rfl rfl rfl ?_
 rintro _ FD ⟨b6,rfl,N9,cw,gw⟩
 refine WL.ax (al Tryz.sizeOf53 rfl rfl rfl cw rfl (pr Jl pv)) rfl rfl ?_
 rintro _ CH ⟨bJ,il⟩
 have Jn:Ext No qS CH:=gw.trans' il (fun q hq e=>by omega)
 have gJ:=GO.trans Jn
 obtain ⟨Pm,Pn,rfl,_⟩:=id Gc.slice
 have IM:=Jn.obj K4 aO
 have K7:=Jn.obj bT aO
 have fi:=Jn.obj K5 aO
 refine Go ?_;refine Gs [(1,_),(2,_),(3,_),(4,_),(5,_),(6,_),(7,_)] ?_;refine G2 ?_;refine WL.call (vs:=[_]) rfl Tryz.call27 rfl (lE IM) rfl rfl rfl ?_
 rintro _ HT ⟨rfl,qj⟩
 refine Go ?_;refine WL.aj (an (fun w=>Tryz.zeroValue53 w)) rfl rfl rfl ?_
 rintro _ N5 ⟨b8,rfl,Hk,dx,xD⟩
 refine WL.ax (al Tryz.sizeOf53 rfl rfl rfl dx rfl (by simp [Value.oneCell'])) rfl rfl ?_
 rintro _ Oa ⟨kV,K8⟩
 have IP:Ext No CH Oa:=(qj.trans xD).trans' K8 (fun q hq e=>by have:=qj.size;omega)
 have Ih:=gJ.trans IP
 have K9:=IP.obj IM aO
 have La:=IP.obj fi aO
 have Lb:=IP.obj K7 aO
 have Lc:=IP.obj bJ aO
 refine Go ?_;refine Gs [(1,_),(2,_),(3,_),(4,_),(5,_),(6,_),(7,_),(9,_)] ?_;refine G2 ?_
 refine bK 43 ?_ TT.mk
 refine Gg ?_;refine Go ?_
 refine bK 46 ?_ TT.mk
 refine Gg ?_;refine Go ?_
 refine bK 49 ?_ TT.mk
 refine Gg ?_;refine Go ?_
 refine bK 53 ?_ TT.mk
 refine Gg ?_;refine WL.ld rfl (by first | exact aa La rfl | assumption) rfl rfl rfl ?_
 refine Gg ?_;refine Go ?_
 refine bK 58 ?_ TT.mk
 refine Gg ?_;refine WL.ld rfl (by first | exact aa Lb rfl | assumption) rfl rfl rfl ?_
 refine Gg ?_;refine Go ?_
 refine bK 63 ?_ TT.mk
 refine Gg ?_;refine WL.ld rfl (by first | exact aa Lc rfl | assumption) rfl rfl rfl ?_
 refine Gg ?_;refine Go ?_
 refine bK 68 ?_ TT.mk
 refine Gg ?_;refine WL.call (vs:=[_]) rfl Tryz.call28 rfl (Ca K9) rfl rfl rfl ?_
 rintro _ hq ⟨rfl,hz⟩
 replace hz:=hz.symm
 subst hz
 refine Gg ?_;refine Go ?_;refine Gs [(0,_)] ?_;refine Gt ?_
 exact ⟨rfl,Ih⟩
def kH:List (String × DataW Unit):=Rows.servePiecesRow.laid.filter fun x=>x.2.handleName?.isNone
noncomputable def pw (os:Os):World :=
 let w0:=World.holding Tryz.prog os ⟨#[],#[],[]⟩
 { w0 with heap := w0.heap.modify 0 fun
     | .cells _ t frozen=>.cells #[.iface 290 (.agg #[.pointer (some ⟨4,165,none⟩)])] t frozen
     | o=>o }
noncomputable def jf (os:Os):World:=(pw os).layVars Tryz.prog kH
theorem qN (os:Os):(jf os).os=os:=World.layVars_os _ _ _
theorem oB (os:Os) (args:Array Value):laidMetH Tryz.prog Rows.servePiecesRow.laid ((jf os).forCall (fun _ _=>0) ⟨#[],args,[]⟩).memory:=by
 have e1:(kH.filter fun x=>(kH.map (·.1)).contains x.1)=kH:=List.filter_eq_self.2 fun x hx=>List.contains_iff_mem.2 (List.mem_map.2 ⟨x,hx,rfl⟩)
 have e2:(kH.filter fun x => !(kH.map (·.1)).contains x.1)=[]:=List.filter_eq_nil_iff.2 fun x hx=>by rw [List.contains_iff_mem.2 (List.mem_map.2 ⟨x,hx,rfl⟩)];simp
 have h:laidMet Tryz.prog kH (jf os):=laidMet_layVars (w0:=pw os) (kH.map (·.1)) [] (by rw [e1];rfl) (by rw [e1];kernel_rfl) (by rw [e1];kernel_rfl) (by rw [e2];exact LaidIn.none)
 exact laidMetH_of_parts (h.of_heap (by simp [World.memory,World.forCall,Input.heap])) (by kernel_rfl)
theorem Dl {W:World} (h:laidMetH Tryz.prog Rows.servePiecesRow.laid W):Er W.heap:=by
 have h':laidMet Tryz.prog kH W∧handlesMet Tryz.prog (Rows.servePiecesRow.laid.filter fun x=>x.2.handleName?.isSome) W:=h
 obtain ⟨name,u,ty,e1,e2,e3,e4,e5⟩:=h'.2 _ (List.mem_singleton.2 rfl)
 have en:name=[101,114,114,111,114]:=(Option.some.inj e1).symm
 subst en
 obtain rfl:=Option.some.inj (HW.symm.trans e2)
 have hm:ty∈(List.range 412).filter fun t=>Tryz.prog.rowNamed t [101,114,114,111,114]:=List.mem_filter.2 ⟨List.mem_range.2 (by rw [← CL];exact e3),e4⟩
 rw [FK] at hm
 obtain rfl:=List.mem_singleton.1 hm
 have hh:typeHandle Tryz.prog 165=.pointer (some ⟨4,165,none⟩):=by kernel_rfl
 rw [hh] at e5
 have hc:W.cell? ⟨0,0,none⟩=some (.iface 290 (.agg #[.pointer (some ⟨4,165,none⟩)])):=by simpa using World.var?_cell HV e5 0
 intro j v hj
 rcases j with _ | j
 · simp only [List.getElem?_cons_zero,Option.some.injEq] at hj
   subst hj
   exact hc
 · simp at hj
end Go.Proofs.YtopgddfgefnmbaaGreatDoor
