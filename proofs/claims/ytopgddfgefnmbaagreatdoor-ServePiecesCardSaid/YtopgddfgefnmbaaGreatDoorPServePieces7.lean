/-
  SEVERAL TEXTS IN ONE: Qv9, FsO, Qw1, SeP.
-/
import Derived.Test.YtopgddfgefnmbaaGreatDoorPServePieces6
import Derived.Test.YtopgddfgefnmbaaGreatDoorRows
import Derived.Lay
import Derived.LaidLaws
import Derived.LaidHandle
import Derived.Stop.Joined
set_option maxHeartbeats 8000000
set_option maxRecDepth 100000
namespace Go.Proofs.YtopgddfgefnmbaaGreatDoor
open Go Go.RK
theorem IZ {h:aj} {A:Option Addr} {c:Nat} {B:List UInt8} (r:Rd h (.slice A B.length c) 1 B.length (bK B)) {a z:Nat} (hz:a+z≤B.length):Rd h (.slice (if c=a then A else A.map (·.add (a * 1))) (a+z - a) (c - a)) 1 ((B.drop a).take z).length (bK ((B.drop a).take z)):=by
 obtain ⟨A',c',e,r'⟩:=pC r (l:=a) (k:=a+z) (by omega) hz
 simp only [Value.slice.injEq] at e
 obtain ⟨rfl,_,rfl⟩:=e
 have hl:((B.drop a).take z).length=a+z - a:=by rw [List.length_take,List.length_drop];omega
 have he:((bK B).drop (a * 1)).take ((a+z - a) * 1)=bK ((B.drop a).take z):=by rw [Nat.mul_one,Nat.mul_one,Nat.add_sub_cancel_left];simp only [bK,List.map_take,List.map_drop]
 rw [hl,← he]
 exact r'
theorem Gw {h:aj} {vb vs:Value} {ss:List UInt8} {fs:List Fm} (gs:uD fs) (er:Er h) (hB:Rd h vb 1 (eG fs).length (bK (eG fs))) (hs:Rd h vs 1 ss.length (bK ss)) (hl:ss.length≤100) :
   ai Tryz.prog 10 ⟨[vb,vs]⟩ h fun u h'=>u=St (C7 (oQ fs))∧Ext No h h':=by
 have zf:=er.pos
 have QZ:=gs.n
 have oU:=gs.l
 obtain ⟨A,c,rfl,Vh,_⟩:=id hB
 obtain ⟨A2,c2,rfl,_⟩:=id hs
 refine calls [(0,_),(1,_)] Tryz.func10 rfl Tryz.ntmps10 rfl ⟨rfl,rfl,trivial⟩ ?_
 refine G2 ?_;refine WC.sr ?_;refine WL.call (vs:=[]) rfl Tryz.call24 rfl (wU) rfl rfl rfl ?_
 rintro _ h1 ⟨be,me,rfl,F6,zq,Pv,Ns,aB⟩
 refine WL.call (vs:=[_,_,_]) rfl Tryz.call23 rfl (LR F6 zq aB (by omega)) rfl rfl rfl ?_
 rintro _ h2 ⟨b,rfl,TC,aK⟩
 have k0:Vv h h2 b fs 0 [] 0 false:=.inl ⟨by simpa using TC,rfl,rfl,fun z=>nomatch z⟩
 have X2:=aB.trans aK
 refine Go ?_;refine G2 ?_;refine G2 ?_;refine G3 ?_;refine WC.block ?_;refine WC.bO (X:=Nat × Nat × Nat × List (Int × List UInt8)) (fun x=>([(6,St (C7 x.2.2.2)),(7,In (x.2.1:Int)),(8,In (x.1:Int))]:Fr)) [(0,_),(1,_),(5,_)] (fun x h'=>x.1≤ss.length+1∧x.2.1≤(eG fs).length∧Vv h h' b fs x.2.1 x.2.2.2 x.2.2.1 false∧Ext No h h'∧(x.1=ss.length+1→x.2.2.2=oQ fs)) (fun x=>ss.length+1 - x.1) ((0,0,0,[])) ⟨rfl,rfl,rfl,rfl,rfl,rfl,trivial⟩ (by exact ⟨by omega,Nat.zero_le _,k0,X2,fun z=>by dsimp only at z;omega⟩) ?_
 rintro ⟨i,a,n,T⟩ h3 ⟨hi,ha,kv,X3,hT⟩
 dsimp only at hi ha kv hT
 refine WC.sub [(6,_),(7,_),(8,_),(0,_),(1,_),(5,_)] ⟨rfl,rfl,rfl,rfl,rfl,rfl,trivial⟩ ?_
 dsimp only
 refine G3 ?_
 refine aJ 1 2 (Hb.mk fun hb=>?_) (Hb.mk fun hb=>?_)
 aa try (
 refine ay 1 ?_
 refine WC.skip ?_
 skip)
 aa try (
 refine ay 2 ?_
 refine WC.exit ?_
 repeat' (ae first | refine aZ ?_ | refine aF rfl ?_ | refine aL ?_ | refine aN ?_ | refine aV ?_)
 refine Br.out (i:=1000) ?_
 skip)
 aa (refine Gn ?_;first | refine Br.ad ?_ | refine Gs [(0,_),(1,_),(5,_),(6,_),(7,_),(8,_)] ?_)
 aa (first | refine Br.ad ?_ | refine WC.seq ?_)
 aa (first | refine Br.ad ?_ | refine WC.block ?_)
 aa (first | refine Br.ad ?_ | refine WC.sr ?_)
 aa (first | refine Br.ad ?_ | refine WL.step (an rfl) rfl rfl rfl ?_)
 aa (first | refine Br.ad ?_ | refine WL.step (cB rfl Tryz.underlying23 rfl) rfl rfl rfl ?_)
 aa (first | refine Br.ad ?_ | refine WL.step (an rfl) rfl rfl rfl ?_)
 aa (first | refine Br.ad ?_ | (refine WL.step (fz rfl rfl (by omega)) rfl rfl rfl ?_))
 aa (first | refine Br.ad ?_ | (rw [show (((eG fs).length:Nat):Int) - (a:Int)=(((eG fs).length - a:Nat):Int) by omega]))
 aa (refine Go ?_;first | refine Br.ad ?_ | refine Gs [(0,_),(1,_),(5,_),(6,_),(7,_),(8,_),(9,_)] ?_)
 refine WC.cut (X:=Nat) (fun z=>[(0,.slice A (eG fs).length c),(1,.slice A2 ss.length c2),(5,.pointer (some ⟨b,0,none⟩)),(6,St (C7 T)),(7,In (a:Int)),(8,In (i:Int)),(9,In (z:Int))]) (fun z h'=>z≤(eG fs).length - a∧(i=ss.length→a+z=(eG fs).length)∧h'=h3) ?_ ?_
 ·
   refine G2 ?_
   refine aJ 3 4 (Hb.mk fun hb=>?_) (Hb.mk fun hb=>?_)
   aa try (
   refine ay 3 ?_
   refine WC.region (Go ?_)
   obtain ⟨bS,oS,TD,Vi,Pc⟩:=Rd.at_ (hs.av X3) (by omega)
   subst TD
   obtain ⟨y,hy⟩:∃ y,ss[i]?=some y:=⟨_,List.getElem?_eq_getElem (by omega)⟩
   have Q0:=y.toNat_lt
   have r8:cell h3 ⟨bS,oS+i * 1,none⟩=some (By y):=by rw [Nat.mul_one];exact Pc.one (j:=i) (by simp [hy])
   refine WL.step (aG Tryz.underlying23 Tryz.sizeOf5 rfl rfl rfl (by omega) (by first | rfl | assumption)) rfl rfl rfl ?_
   refine WL.ld rfl (by first | exact r8 | assumption) rfl rfl rfl ?_
   refine WL.step (kW Tryz.underlying5 Tryz.underlying3 rfl (by omega)) rfl rfl rfl ?_
   refine WL.step (kU rfl rfl) rfl rfl rfl ?_
   rw [show (if (y.toNat:Int) < (((eG fs).length - a:Nat):Int) then (y.toNat:Int) else (((eG fs).length - a:Nat):Int))=((min ((eG fs).length - a) y.toNat:Nat):Int) by split <;> omega]
   refine Go ?_
   skip)
   aa try (
   refine ay 4 ?_
   refine WC.skip ?_
   skip)
   aa (refine Gn ?_;refine ⟨_,⟨rfl,rfl,rfl,rfl,rfl,rfl,rfl,trivial⟩,?_⟩;exact ⟨by omega,fun e=>by omega,rfl⟩)
 rintro z h4 ⟨jw,Kz,hz⟩;subst hz
 aa (first | refine Br.ad ?_ | refine WC.sr ?_)
 aa (refine Go ?_;first | refine Br.ad ?_ | (refine WL.step (dk (l:=a) (k:=a+z) Tryz.underlying23 Tryz.sizeOf5 rfl rfl rfl (by omega)) rfl rfl rfl ?_))
 aa (
  first
    | (refine Br.ad ?_)
    | (refine WL.call (vs:=[_,_]) rfl Tryz.call25 rfl (IX gs kv rfl (IZ (hB.av X3) (by omega))) rfl rfl rfl ?_
       rintro v4 h4 ⟨TE,bh⟩
       have X4:Ext No h h4:=X3.trans' bh (fun q hq (e:h.size≤q)=>by omega)))
 aa (refine Gn ?_;first | refine Br.ad ?_ | refine Gs [(0,_),(1,_),(5,_),(6,_),(7,_),(8,_),(9,_)] ?_)
 aa (first | refine Br.ad ?_ | refine WC.sr ?_)
 aa (refine Go ?_;first | refine Br.ad ?_ | refine Gs [(0,_),(1,_),(5,_),(6,_),(7,_),(8,_)] ?_)
 aa (first | refine Br.ad ?_ | refine WC.seq ?_)
 aa (first | refine Br.ad ?_ | refine WC.sr ?_)
 aa (refine Go ?_;first | refine Br.ad ?_ | refine WC.block ?_)
 aa (first | refine Br.ad ?_ | (refine WC.bO (X:=Nat × Nat) (fun x=>([(50,In (x.1:Int))]:Fr)) [(0,_),(1,_),(5,_),(6,_),(7,_),(8,_)] (fun x h'=>x.1≤700∧x.1≤x.2∧Vv h h' b fs (a+z) T x.2 false∧Ext No h h') (fun x=>700 - x.1) ((0,n)) ⟨rfl,rfl,rfl,rfl,rfl,rfl,rfl,trivial⟩ (by exact ⟨by omega,Nat.zero_le _,TE,X4⟩) ?_))
 aa (
  first
    | (refine Br.ad ?_)
    | (rintro ⟨j,n5⟩ h5 ⟨hj,TF,Pd,X5⟩
       dsimp only at hj TF Pd
       have Jc:=Pd.le))
 aa (first | refine Br.ad ?_ | refine WC.sub [(50,_),(0,_),(1,_),(5,_),(6,_),(7,_),(8,_)] ⟨rfl,rfl,rfl,rfl,rfl,rfl,rfl,trivial⟩ ?_)
 aa (first | refine Br.ad ?_ | dsimp only)
 aa (first | refine Br.ad ?_ | refine WC.sr ?_)
 aa (refine Go ?_;first | refine Br.ad ?_ | refine WC.seq ?_)
 aa (first | refine Br.ad ?_ | refine aJ 5 6 ?_ TT.mk)
 aa try (
 refine ay 5 ?_
 refine WC.skip ?_
 skip)
 aa (refine Gn ?_;first | refine Br.ad ?_ | refine WC.seq ?_)
 aa (first | refine Br.ad ?_ | refine WC.block ?_)
 aa (first | refine Br.ad ?_ | refine WC.sr ?_)
 aa (refine Go ?_)
 aa (
  first
    | (refine Br.ad ?_)
    | (refine WL.call (vs:=[_]) rfl Tryz.call26 rfl (LX gs (er.av X5) zf Pd) rfl rfl rfl ?_
       rintro _ h6 ⟨⟨g6,KP,rfl,Pf,k6⟩,aP⟩
       have X6:Ext No h h6:=X5.trans' aP (fun q hq (e:h.size≤q)=>by omega)))
 aa (refine Go ?_)
 aa (
  first
    | (refine Br.ad ?_)
    | (refine WL.al (au (fun w=>Tryz.zeroValue42 w)) rfl rfl rfl ?_
       rintro _ h7 ⟨Qv,rfl,zu,cq,bu⟩))
 aa (
  first
    | (refine Br.ad ?_)
    | (refine WL.az (aq Tryz.sizeOf42 rfl rfl rfl cq rfl Pf) rfl rfl ?_
       rintro _ h8 ⟨bP,bH⟩
       have ML:Ext No h6 h8:=bu.trans' bH (fun q hq e=>by omega)
       have X8:=X6.trans ML
       rcases k6 with ⟨rfl,ek,k6⟩ | ⟨rfl,TG⟩))
 aa (refine Go ?_;first | refine Br.ad ?_ | refine Gs [(0,_),(1,_),(5,_),(6,_),(7,_),(8,_),(10,_),(11,_),(50,_)] ?_)
 aa (first | refine Br.ad ?_ | refine WC.sr ?_)
 aa (refine Go ?_;first | refine Br.ad ?_ | refine bU 59 ?_ TT.mk)
 aa (refine Gg ?_;first | refine Br.ad ?_ | (first | (refine WL.pass rfl rfl rfl ?_) | (refine WL.ld rfl (by first | exact ab bP rfl | assumption) rfl rfl rfl ?_)))
 aa (refine Gg ?_;refine Go ?_;first | refine Br.ad ?_ | refine Gs [(0,_),(1,_),(5,_),(6,_),(7,_),(8,_),(50,_),(63,_)] ?_)
 aa (first | refine Br.ad ?_ | refine aJ 7 8 ?_ TT.mk)
 aa try (
 refine ay 7 ?_
 refine G2 ?_;refine WL.call (vs:=[_]) rfl Tryz.call26 rfl (LY gs (er.av X8) zf (k6.imp (fun k=>k.av ML) (fun k=>k.av ML))) rfl rfl rfl ?_
 rintro _ h9 ⟨⟨g9,Ms,rfl,Pg,k9⟩,cl⟩
 have X9:Ext No h h9:=X8.trans' cl (fun q hq (e:h.size≤q)=>by omega)
 refine Go ?_;refine WL.al (au (fun w=>Tryz.zeroValue42 w)) rfl rfl rfl ?_
 rintro _ jf ⟨Gb,rfl,Im,ga,cC⟩
 refine WL.az (aq Tryz.sizeOf42 rfl rfl rfl ga rfl Pg) rfl rfl ?_
 rintro _ rr ⟨px,cV⟩
 have I0:Ext No h9 rr:=cC.trans' cV (fun q hq e=>by omega)
 have Ip:=X9.trans I0
 rcases k9 with ⟨rfl,Ph⟩ | ⟨rfl,Ph⟩
 aa (refine Go ?_;refine Gs [(0,_),(1,_),(5,_),(6,_),(7,_),(8,_),(13,_),(50,_)] ?_;refine G2 ?_;refine aJ 9 10 ?_ TT.mk)
 aa try (
 refine ay 9 ?_
 refine WC.exit ?_
 repeat' (ae first | refine aZ ?_ | refine aF rfl ?_ | refine aL ?_ | refine aN ?_ | refine aV ?_)
 refine Br.out (i:=1002) ?_
 skip)
 aa try (
 refine ay 10 ?_
 refine WC.skip ?_
 skip)
 skip)
 aa try (
 refine ay 8 ?_
 refine WC.skip ?_
 skip)
 aa (refine Gn ?_;first | refine Br.ad ?_ | refine WC.region ?_)
 aa (refine Go ?_;first | refine Br.ad ?_ | (exact ⟨(j+1,n5+1),⟨rfl,rfl,rfl,rfl,rfl,rfl,rfl,trivial⟩,(by first | exact ⟨by omega,by omega,.inr (Ph.av I0),Ip⟩ | exact ⟨by omega,by omega,.inr (TG.av ML),X8⟩ | (exfalso;omega)),(by dsimp only;omega)⟩))
 aa (try (refine Br.mk (i:=1002) ?_))
 aa (refine Gn ?_;first | refine Br.ad ?_ | refine Gs [(0,_),(1,_),(5,_),(6,_),(7,_),(8,_)] ?_)
 aa (first | refine Br.ad ?_ | refine WC.sr ?_)
 aa (first | refine Br.ad ?_ | (first | (exfalso;omega) | skip))
 aa (first | refine Br.ad ?_ | refine WL.step (an rfl) rfl rfl rfl ?_)
 aa (first | refine Br.ad ?_ | have TH:=Ph.av I0)
 aa (refine Gn ?_;first | refine Br.ad ?_ | refine WC.block ?_)
 aa (first | refine Br.ad ?_ | (refine WC.bO (X:=Nat × List (Int × List UInt8)) (fun x=>([(72,In (x.1:Int)),(6,St (C7 x.2))]:Fr)) [(0,_),(1,_),(5,_),(7,_),(8,_)] (fun x h'=>x.1≤5000∧x.1≤x.2.length∧Vv h h' b fs (a+z) x.2 n5 true∧Ext No h h') (fun x=>5000 - x.1) ((0,T)) ⟨rfl,rfl,rfl,rfl,rfl,rfl,rfl,trivial⟩ (by exact ⟨by omega,Nat.zero_le _,TH,Ip⟩) ?_))
 aa (
  first
    | (refine Br.ad ?_)
    | (rintro ⟨j2,T2⟩ r7 ⟨TI,TJ,Fu,JB⟩
       dsimp only at TI TJ Fu
       have Vj:=Fu.LZ gs
       have Vk:=Fu.C7 gs))
 aa (first | refine Br.ad ?_ | refine WC.sub [(6,_),(72,_),(0,_),(1,_),(5,_),(7,_),(8,_)] ⟨rfl,rfl,rfl,rfl,rfl,rfl,rfl,trivial⟩ ?_)
 aa (first | refine Br.ad ?_ | dsimp only)
 aa (first | refine Br.ad ?_ | refine WC.sr ?_)
 aa (refine Go ?_;first | refine Br.ad ?_ | refine WC.seq ?_)
 aa (first | refine Br.ad ?_ | refine aJ 11 12 ?_ TT.mk)
 aa try (
 refine ay 11 ?_
 refine WC.skip ?_
 skip)
 aa (refine Gn ?_;first | refine Br.ad ?_ | refine WC.seq ?_)
 aa (first | refine Br.ad ?_ | refine WC.block ?_)
 aa (first | refine Br.ad ?_ | refine WC.sr ?_)
 aa (refine Go ?_)
 aa (
  first
    | (refine Br.ad ?_)
    | (refine WL.call (vs:=[_]) rfl Tryz.call27 rfl (IY gs Fu) rfl rfl rfl ?_
       rintro _ H6 ⟨⟨rfl,Db⟩ | ⟨y,m,rfl,hm,Db⟩,gV⟩
       aa have Ls:Ext No h H6:=JB.trans' gV (fun q hq (e:h.size≤q)=>by omega)))
 aa (refine Go ?_)
 aa (
  first
    | (refine Br.ad ?_)
    | (refine WL.al (au (fun w=>Tryz.zeroValue53 w)) rfl rfl rfl ?_
       rintro _ ED ⟨Vl,rfl,TL,bT,iP⟩))
 aa (
  first
    | (refine Br.ad ?_)
    | (refine WL.az (aq Tryz.sizeOf53 rfl rfl rfl bT rfl (by intro x hx;simp only [List.mem_cons,List.not_mem_nil,or_false] at hx;rcases hx with rfl | rfl;rfl;first | exact iG hm | rfl)) rfl rfl ?_
       rintro _ K0 ⟨du,rv⟩
       have L0:Ext No H6 K0:=iP.trans' rv (fun q hq e=>by omega)))
 aa (refine Go ?_;first | refine Br.ad ?_ | refine Gs [(0,_),(1,_),(5,_),(6,_),(7,_),(8,_),(14,_),(15,_),(72,_)] ?_)
 aa (first | refine Br.ad ?_ | refine WC.seq ?_)
 aa (first | refine Br.ad ?_ | refine WC.sr ?_)
 aa (refine Go ?_;first | refine Br.ad ?_ | refine aJ 13 14 ?_ TT.mk)
 aa try (
 refine ay 13 ?_
 refine WC.exit ?_
 repeat' (ae first | refine aZ ?_ | refine aF rfl ?_ | refine aL ?_ | refine aN ?_ | refine aV ?_)
 refine Br.out (i:=1004) ?_
 skip)
 aa try (
 refine ay 14 ?_
 refine WC.skip ?_
 skip)
 aa (refine Gn ?_;first | refine Br.ad ?_ | refine WC.region ?_)
 aa (
  first
    | (refine Br.ad ?_)
    | (have TM:=Db.body gs
       obtain ⟨QQ,QR,rfl,_⟩:=id hm.slice))
 aa (first | refine Br.ad ?_ | refine WL.step (an rfl) rfl rfl rfl ?_)
 aa (refine Go ?_;first | refine Br.ad ?_ | (refine WL.ld rfl (by first | exact ab du rfl | assumption) rfl rfl rfl ?_))
 aa (
  first
    | (refine Br.ad ?_)
    | (refine WL.al (aw (vs:=[_]) (cs:=[_]) (fun | [a0]=>[a0] | _=>[]) Tryz.underlying23 rfl rfl (by kernel_rfl)) rfl rfl rfl ?_
       rintro _ TN ⟨RJ,rfl,Kg,dK,zn⟩))
 aa (first | refine Br.ad ?_ | (refine WL.step (dZ Tryz.underlying23 Tryz.underlying5 Tryz.underlying9 rfl (l:=[UInt8.ofNat y.1.toNat]) (bG (len:=1) (sz:=1) (cs:=bK [UInt8.ofNat y.1.toNat]) (by rw [show bK [UInt8.ofNat y.1.toNat]=[.int .u8 y.1] by simp only [bK,List.map_cons,List.map_nil,qm TM.2]];exact dK) rfl)) rfl rfl rfl ?_))
 aa (refine Go ?_;first | refine Br.ad ?_ | (refine WL.ld rfl (by first | exact ab (zn.obj du aQ) rfl | assumption) rfl rfl rfl ?_))
 aa (first | refine Br.ad ?_ | (refine WL.step (dZ Tryz.underlying23 Tryz.underlying5 Tryz.underlying9 rfl ((hm.ext L0 (fun _ _=>aQ)).ext zn (fun _ _=>aQ)).rd) rfl rfl rfl ?_))
 aa (first | refine Br.ad ?_ | (refine WL.step (dC rfl rfl (by first | (simp only [List.length_append,List.length_cons,List.length_nil];omega) | (simp;omega))) rfl rfl rfl ?_))
 aa (first | refine Br.ad ?_ | (refine WL.step (dC rfl rfl (by first | (simp only [List.length_append,List.length_cons,List.length_nil];omega) | (simp;omega))) rfl rfl rfl ?_))
 aa (first | refine Br.ad ?_ | rw [← C8])
 aa (refine Go ?_;first | refine Br.ad ?_ | refine Gs [(0,_),(1,_),(5,_),(6,_),(7,_),(8,_),(72,_)] ?_)
 aa (first | refine Br.ad ?_ | refine WC.region ?_)
 aa (refine Go ?_;first | refine Br.ad ?_ | (exact ⟨(j2+1,T2++[y]),⟨rfl,rfl,rfl,rfl,rfl,rfl,rfl,trivial⟩,(by exact ⟨by omega,by rw [List.length_append];dsimp only;simp;omega,(Db.av L0).av zn,(Ls.trans L0).trans zn⟩),(by dsimp only;omega)⟩))
 aa (try (refine Br.mk (i:=1004) ?_))
 aa (refine Gn ?_;first | refine Br.ad ?_ | refine Gs [(0,_),(1,_),(5,_),(6,_),(7,_),(8,_)] ?_)
 aa (first | refine Br.ad ?_ | refine WC.region ?_)
 aa (first | refine Br.ad ?_ | (first | (exfalso;omega) | skip))
 aa (first | refine Br.ad ?_ | refine WL.step (an rfl) rfl rfl rfl ?_)
 aa (refine Go ?_;first | refine Br.ad ?_ | (exact ⟨(i+1,a+z,n5,T2),⟨rfl,rfl,rfl,rfl,rfl,rfl,trivial⟩,(by exact ⟨by dsimp only;omega,by dsimp only;omega,(Ft.C3 Db).av L0,Ls.trans L0,fun e=>Ft.fin gs Db (Kz (by omega))⟩),(by dsimp only;omega)⟩))
 try (refine Br.mk (i:=1000) ?_)
 refine Gn ?_;refine Gs [(6,_)] ?_;refine G2 ?_;refine Gt ?_
 exact ⟨by rw [hT (by omega)],X3⟩
theorem zo (w:World):ew Tryz.prog w 22 (fun p:Value × List Fm=>[p.1]) (fun p=>Ho w.heap p.1 p.2) :=
 (dX Tryz.underlying22 (by kernel_rfl) (by decide) Fm.len (AR w)).map id (fun _=>rfl) fun p q=>⟨q.1,q.2.1,fun f hf=>(q.2.2.2.1 f hf).1⟩
noncomputable def uq (L:List Fm):List Fm:=L.filter fun f=>@decide f.may (Classical.propDecidable _)
theorem ur (L:List Fm):xE (wg L)=mw (uq L):=by
 unfold xE wg mw uq
 induction L with
 | nil=>rfl
 | cons f L ih =>
   rw [List.flatMap_cons,List.flatMap_append,ih,List.filter_cons]
   by_cases h:f.may
   · rw [@if_pos _ (Classical.propDecidable _) h,if_pos (@decide_eq_true _ (Classical.propDecidable _) h),List.flatMap_cons]
     simp
   · rw [@if_neg _ (Classical.propDecidable _) h,if_neg (by rw [@decide_eq_false _ (Classical.propDecidable _) h];decide)]
     simp
theorem I1 {L:List Fm} (h1:(L.length:Int)≤20) (h2:∀ f∈L,f.xA) (h3:(eG (uq L)).length≤3000):uD (uq L) :=
 ⟨fun f hf=>by
   obtain ⟨h,m⟩:=List.mem_filter.1 hf
   exact ⟨h2 f h,@of_decide_eq_true _ (Classical.propDecidable _) m⟩,by have:(uq L).length≤L.length:=List.length_filter_le _ _;omega,h3⟩
theorem rV {b:Bk} (h:b.may):eV b.p=[(b.kind,eK b)]:=by
 have e:(y8 b.p).p=b.p:=vU _
 unfold eV
 rw [if_pos (vV e.symm h),xt e]
 rfl
theorem zp:∃ l1 l2 l3,gM=[(82,l1),(75,l2),(90,l3)]:=by
 have e:gM=eV (gB 82 0 0 0).p++(eV (gB 75 0 1 7919).p++(eV (gB 90 73 0 0).p++[])):=rfl
 rw [rV GZ,rV G0,rV G1] at e
 exact ⟨_,_,_,e⟩
theorem qw {k:Int} {v:Value} {xs:List Value} (hv:v.oneCell'=true) (hx:∀ x∈xs,x.oneCell'=true):∀ x∈Value.int .u8 k :: v :: xs,x.oneCell'=true:=fun x h=>by
 simp only [List.mem_cons] at h
 rcases h with rfl | rfl | h
 · rfl
 · exact hv
 · exact hx x h
theorem qx:∀ x∈([]:List Value),x.oneCell'=true:=fun _ h=>by cases h
theorem oT {h:aj}:ai Tryz.prog 7 ⟨[]⟩ h fun u h'=>u=.bool true∧Ext No h h':=by
 refine calls [] Tryz.func7 rfl Tryz.ntmps7 rfl trivial ?_
 refine G2 ?_;refine WC.sr ?_;refine WL.call (vs:=[]) rfl Tryz.call24 rfl (wU) rfl rfl rfl ?_
 rintro _ h1 ⟨be,me,rfl,_,_,_,_,aB⟩
 refine WL.call (vs:=[_,_,_]) rfl Tryz.call23 rfl (Hr) rfl rfl rfl ?_
 rintro _ h2 ⟨b,fb,s,rfl,qC,Di,Vm,Nw,aK⟩
 have l1:=aB.size
 have X2:=aB.trans aK
 have xx:b ≠ fb:=fun e=>by have:=Di.bB;rw [← e,qC] at this;simp at this
 refine Go ?_;refine G3 ?_;refine WL.step (fP Tryz.underlying44 rfl rfl) rfl rfl rfl (Go ?_)
 refine bU 14 ?_ TT.mk
 refine Gg ?_;refine WL.call (vs:=[]) rfl Tryz.call8 rfl (pJ) rfl rfl rfl ?_
 rintro v3 h3 ⟨ee,aS,im⟩
 have MK:=aS.obj qC aQ
 have X3:=X2.trans aS
 obtain ⟨A3,c3,rfl,_⟩:=id ee.slice
 refine WL.call (vs:=[_,_]) rfl Tryz.call25 rfl (wV (m:=dz) MK (Di.av aS) ee.rd (by decide)) rfl rfl rfl ?_
 rintro _ h4 ⟨rfl,v4,Dq,bh,tD⟩
 have Dq:Fw h4 fb false v4 dz:=Dq
 have x7:=bh.obj MK (fun e=>e.elim xx (fun e=>by cases e))
 have l3:=X3.size
 have X4:=X3.trans' bh (fun q hq e=>e.elim (fun e=>by omega) (fun e=>by cases e))
 have QN:∀ q,v4.ownBlock=some q→h.size≤q:=fun q hq=>(tD q hq).elim (fun e=>by cases e) (fun e=>by omega)
 refine Gg ?_;refine Go ?_;refine Gs [(1,_),(19,_)] ?_
 refine aJ 1 2 ?_ TT.mk
 aa (refine ay 2 ?_)
 refine WC.skip ?_;refine Gn ?_;refine G2 ?_;refine WL.call (vs:=[_]) rfl Tryz.call26 rfl (oB (r:=[]) x7 (by rw [List.append_nil];exact Dq) (by decide)) rfl rfl rfl ?_
 rintro _ h5 ⟨rfl,w5,M5,v5,Jw,OO,MM,Lb,aO,gj,Lc,Vn⟩
 obtain ⟨l1,l2,l3,eg⟩:=zp
 obtain ⟨m1,m2,m3,rfl⟩:∃ m1 m2 m3,M5=[m1,m2,m3]:=by
  rw [eg] at Jw
  rcases M5 with _ | ⟨m1,_ | ⟨m2,_ | ⟨m3,_ | ⟨m4,M⟩⟩⟩⟩ <;> cK
 obtain ⟨k1,v1,b1⟩:=m1
 obtain ⟨k2,v2,b2⟩:=m2
 obtain ⟨k3,v3,b3⟩:=m3
 rw [eg] at Jw
 simp only [List.map_cons,List.map_nil,nd.pl,List.cons.injEq,Prod.mk.injEq] at Jw
 obtain ⟨⟨rfl,-⟩,⟨rfl,-⟩,⟨rfl,-⟩,-⟩:=Jw
 have fH:=iG (MM.xv (82,v1,b1) (by simp))
 have lI:=iG (MM.xv (75,v2,b2) (by simp))
 have MN:=iG (MM.xv (90,v3,b3) (by simp))
 have eX:Own h5 w5 53 2 3 [.int .u8 82,v1,.int .u8 75,v2,.int .u8 90,v3]:=MM.row
 have l4:=X4.size
 have X5:=X4.trans' aO (fun q hq e=>by rcases e with e | e | e;omega;omega;have:=QN q e;omega)
 refine Gn ?_;refine G2 ?_;refine WL.call (vs:=[_]) rfl Tryz.call27 rfl (lC OO eX fH (qw lI (qw MN qx)) (by decide)) rfl rfl rfl ?_
 rintro _ h6 ⟨rfl,w6,Jv,gT,aP,jg⟩
 have X6:=X5.trans' aP (fun q hq e=>by rcases e with e | e;omega;have:=gj q e;omega)
 have l5:=X5.size
 have HC:∀ q,w6.ownBlock=some q→h.size≤q:=fun q hq=>by rw [jg] at hq;have:=gj q hq;omega
 refine Go ?_;refine WL.al (au (fun w=>Tryz.zeroValue53 w)) rfl rfl rfl ?_
 rintro _ h7 ⟨b2,rfl,zu,cq,bu⟩
 refine WL.az (aq Tryz.sizeOf53 rfl rfl rfl cq rfl (qw fH qx)) rfl rfl ?_
 rintro _ h8 ⟨bP,bH⟩
 have Y8:Ext No h6 h8:=bu.trans' bH (fun q hq e=>by omega)
 have X8:=X6.trans Y8
 have xw:=Y8.obj Jv aQ
 have kC:=gT.ext Y8 (fun _ _=>aQ)
 have Vo:h.size≤b2:=by have:=X6.size;omega
 refine Go ?_;refine Gs [(1,_),(2,_),(3,_)] ?_;refine G2 ?_;refine WL.call (vs:=[_]) rfl Tryz.call27 rfl (lC xw kC lI (qw MN qx) (by decide)) rfl rfl rfl ?_
 rintro _ h9 ⟨rfl,w9,vX,Gq,cl,xG⟩
 have X9:=X8.trans' cl (fun q hq e=>by rcases e with e | e;omega;have:=HC q e;omega)
 have Rx:=ak bP
 have Q1:w6.ownBlock ≠ some b2:=fun e=>by have:=gT.lt e;omega
 have Q2:b2 ≠ b:=fun e=>by have:=ak Jv;omega
 have ck:=cl.obj bP (fun e=>e.elim Q2 Q1)
 have TO:∀ q,w9.ownBlock=some q→h.size≤q:=fun q hq=>by rw [xG] at hq;exact HC q hq
 refine Go ?_;refine WL.al (au (fun w=>Tryz.zeroValue53 w)) rfl rfl rfl ?_
 rintro _ jf ⟨b4,rfl,Im,ga,cC⟩
 refine WL.az (aq Tryz.sizeOf53 rfl rfl rfl ga rfl (qw lI qx)) rfl rfl ?_
 rintro _ rr ⟨px,cV⟩
 have MO:Ext No h9 rr:=cC.trans' cV (fun q hq e=>by omega)
 have Ip:=X9.trans MO
 have Pj:=MO.obj vX aQ
 have vY:=Gq.ext MO (fun _ _=>aQ)
 have Pk:=MO.obj ck aQ
 refine Go ?_;refine Gs [(1,_),(2,_),(3,_),(4,_),(5,_)] ?_;refine G2 ?_;refine WL.call (vs:=[_]) rfl Tryz.call27 rfl (lC Pj vY MN qx (by decide)) rfl rfl rfl ?_
 rintro _ r7 ⟨rfl,Vp,Pm,IK,eQ,TP⟩
 have JB:=Ip.trans' eQ (fun q hq e=>by rcases e with e | e;omega;have:=TO q e;omega)
 have TQ:b4 ≠ b:=fun e=>by have:=ak vX;omega
 have ca:=eQ.obj px (fun e=>e.elim TQ (fun e=>by have:=Gq.lt e;omega))
 have Pn:=eQ.obj Pk (fun e=>e.elim Q2 (fun e=>Q1 (xG▸e)))
 refine Go ?_;refine WL.al (au (fun w=>Tryz.zeroValue53 w)) rfl rfl rfl ?_
 rintro _ H6 ⟨b6,rfl,TR,cE,gV⟩
 refine WL.az (aq Tryz.sizeOf53 rfl rfl rfl cE rfl (qw MN qx)) rfl rfl ?_
 rintro _ ED ⟨bT,iP⟩
 have MP:Ext No r7 ED:=gV.trans' iP (fun q hq e=>by omega)
 have hY:=JB.trans MP
 obtain ⟨Vq,Vr,rfl,_⟩:=id IK.slice
 have L4:=MP.obj Pm aQ
 have Po:=MP.obj ca aQ
 have fE:=MP.obj Pn aQ
 refine Go ?_;refine Gs [(1,_),(2,_),(3,_),(4,_),(5,_),(6,_),(7,_)] ?_;refine G2 ?_;refine WL.call (vs:=[_]) rfl Tryz.call27 rfl (mv L4) rfl rfl rfl ?_
 rintro _ K0 ⟨rfl,rv⟩
 refine Go ?_;refine WL.al (au (fun w=>Tryz.zeroValue53 w)) rfl rfl rfl ?_
 rintro _ TN ⟨b8,rfl,Kg,dK,zn⟩
 refine WL.az (aq Tryz.sizeOf53 rfl rfl rfl dK rfl (by simp [Value.oneCell'])) rfl rfl ?_
 rintro _ TS ⟨lT,Pp⟩
 have L5:Ext No ED TS:=(rv.trans zn).trans' Pp (fun q hq e=>by have:=rv.size;omega)
 have Lt:=hY.trans L5
 have Pq:=L5.obj L4 aQ
 have Pr:=L5.obj fE aQ
 have Ps:=L5.obj Po aQ
 have Pt:=L5.obj bT aQ
 refine Go ?_;refine Gs [(1,_),(2,_),(3,_),(4,_),(5,_),(6,_),(7,_),(9,_)] ?_;refine G2 ?_
 refine bU 43 ?_ TT.mk
 refine Gg ?_;refine Go ?_
 refine bU 46 ?_ TT.mk
 refine Gg ?_;refine Go ?_
 refine bU 49 ?_ TT.mk
 refine Gg ?_;refine Go ?_
 refine bU 53 ?_ TT.mk
 refine Gg ?_;refine WL.ld rfl (by first | exact ab Pr rfl | assumption) rfl rfl rfl ?_
 refine Gg ?_;refine Go ?_
 refine bU 58 ?_ TT.mk
 refine Gg ?_;refine WL.ld rfl (by first | exact ab Ps rfl | assumption) rfl rfl rfl ?_
 refine Gg ?_;refine Go ?_
 refine bU 63 ?_ TT.mk
 refine Gg ?_;refine WL.ld rfl (by first | exact ab Pt rfl | assumption) rfl rfl rfl ?_
 refine Gg ?_;refine Go ?_
 refine bU 68 ?_ TT.mk
 refine Gg ?_;refine WL.call (vs:=[_]) rfl Tryz.call28 rfl (D2 Pq) rfl rfl rfl ?_
 rintro _ hq ⟨rfl,hz⟩
 replace hz:=hz.symm
 subst hz
 refine Gg ?_;refine Go ?_;refine Gs [(0,_)] ?_;refine Gt ?_
 exact ⟨rfl,Lt⟩
def lF:List (String × DataW Unit):=Rows.servePiecesRow.laid.filter fun x=>x.2.handleName?.isNone
noncomputable def qy (os:Os):World :=
 let w0:=World.holding Tryz.prog os ⟨#[],#[],[]⟩
 { w0 with heap := w0.heap.modify 0 fun
     | .cells _ t frozen=>.cells #[.iface 290 (.agg #[.pointer (some ⟨4,165,none⟩)])] t frozen
     | o=>o }
noncomputable def jH (os:Os):World:=(qy os).layVars Tryz.prog lF
theorem rW (os:Os):(jH os).os=os:=World.layVars_os _ _ _
theorem py (os:Os) (args:Array Value):laidMetH Tryz.prog Rows.servePiecesRow.laid ((jH os).forCall (fun _ _=>0) ⟨#[],args,[]⟩).memory:=by
 have e1:(lF.filter fun x=>(lF.map (·.1)).contains x.1)=lF:=List.filter_eq_self.2 fun x hx=>List.contains_iff_mem.2 (List.mem_map.2 ⟨x,hx,rfl⟩)
 have e2:(lF.filter fun x => !(lF.map (·.1)).contains x.1)=[]:=List.filter_eq_nil_iff.2 fun x hx=>by rw [List.contains_iff_mem.2 (List.mem_map.2 ⟨x,hx,rfl⟩)];simp
 have h:laidMet Tryz.prog lF (jH os):=laidMet_layVars (w0:=qy os) (lF.map (·.1)) [] (by rw [e1];rfl) (by rw [e1];kernel_rfl) (by rw [e1];kernel_rfl) (by rw [e2];exact LaidIn.none)
 exact laidMetH_of_parts (h.of_heap (by simp [World.memory,World.forCall,Input.heap])) (by kernel_rfl)
theorem Fv {W:World} (h:laidMetH Tryz.prog Rows.servePiecesRow.laid W):Er W.heap:=by
 have h':laidMet Tryz.prog lF W∧handlesMet Tryz.prog (Rows.servePiecesRow.laid.filter fun x=>x.2.handleName?.isSome) W:=h
 obtain ⟨name,u,ty,e1,e2,e3,e4,e5⟩:=h'.2 _ (List.mem_singleton.2 rfl)
 have en:name=[101,114,114,111,114]:=(Option.some.inj e1).symm
 subst en
 obtain rfl:=Option.some.inj (K5.symm.trans e2)
 have hm:ty∈(List.range 412).filter fun t=>Tryz.prog.rowNamed t [101,114,114,111,114]:=List.mem_filter.2 ⟨List.mem_range.2 (by rw [← EH];exact e3),e4⟩
 rw [Ig] at hm
 obtain rfl:=List.mem_singleton.1 hm
 have hh:typeHandle Tryz.prog 165=.pointer (some ⟨4,165,none⟩):=by kernel_rfl
 rw [hh] at e5
 have hc:W.cell? ⟨0,0,none⟩=some (.iface 290 (.agg #[.pointer (some ⟨4,165,none⟩)])):=by simpa using World.var?_cell K4 e5 0
 intro j v hj
 rcases j with _ | j
 · simp only [List.getElem?_cons_zero,Option.some.injEq] at hj
   subst hj
   exact hc
 · simp at hj
end Go.Proofs.YtopgddfgefnmbaaGreatDoor
