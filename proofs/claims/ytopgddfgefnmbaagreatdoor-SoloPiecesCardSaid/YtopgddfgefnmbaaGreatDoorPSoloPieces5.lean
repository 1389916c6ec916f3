/-
  SEVERAL TEXTS IN ONE: Dx9, Dx16, Dx17, Dx18, Dx19, Sx6, Sx7, As30, As31, As32, Dx20, Dx21, Dp1, DigClean, Dp2, EnQ, Qv1, Qv2, Dx22, Dx23, Qv3, Dx24, Qv4, PlF, BkC2, Ck5.
-/
import Derived.Test.YtopgddfgefnmbaaGreatDoorPSoloPieces4
import Derived.WalkKit
import Derived.LaidEql
import Derived.Stop.Asserts
import Derived.RowKitTokens
set_option maxHeartbeats 8000000
set_option maxRecDepth 100000
namespace Go.Proofs.YtopgddfgefnmbaaGreatDoor
open Go Go.RK
theorem Dd {h:ah} {v:Value} (l:List aX) (hc:cF h v l) :
   ag Tryz.prog 260 ⟨[v]⟩ h fun u h'=>∃ l',cF h' u l'∧l'.map aX.pl=l.map aX.pl∧Ext No h h'∧∀ b,dy u l' b→h.size≤b:=by
 obtain ⟨hr,⟨hlm,A,c,rfl,hcap⟩,hok⟩:=hc
 have hlm':=hlm
 unfold reachBytes at hlm'
 have h1:=rM hok
 by_cases h0:l=[]
 · subst h0
   refine calls [(0,_)] Tryz.func260 rfl Tryz.ntmps260 rfl ⟨rfl,trivial⟩ ?_
   refine G2 ?_;refine G2 ?_;refine WL.call (vs:=[_]) rfl Tryz.call294 rfl (gu hr h1 hlm) rfl rfl rfl ?_
   rintro v2 h2 ⟨dC,aH,eN⟩
   obtain ⟨A2,c2,rfl,mJ⟩:=dC.Fh
   refine Go ?_;refine Gs [(3,_)] ?_;refine G3 ?_;refine WC.block ?_;refine WC.bC (X:=Unit) (fun x=>([(9,In (0:Int))]:Fr)) [(3,_),(8,_)] (fun _ h'=>h'=h2) (fun _=>0) (()) ⟨rfl,rfl,rfl,trivial⟩ (by exact rfl) ?_
   rintro _ h9 hz
   subst h9
   refine WC.sub [(9,_),(3,_),(8,_)] ⟨rfl,rfl,rfl,trivial⟩ ?_;refine G2 ?_;refine WC.seq ?_
   refine aJ 1 2 ?_ TT.mk
   all_goals (refine ax 2 ?_)
   refine WC.exit ?_
   repeat' (with_reducible first | refine aU ?_ | refine aG rfl ?_ | refine aI ?_ | refine aL ?_ | refine aS ?_)
   refine Br.out (i:=1000) ?_;refine Gn ?_;refine Br.ab ?_;refine Br.ab ?_;refine Br.ab ?_;refine Go ?_;refine Br.ab ?_;refine Go ?_;refine Br.ab ?_;refine Go ?_;refine Br.ab ?_;refine Br.ab ?_;refine Br.ab ?_;refine Go ?_;refine Br.ab ?_;refine Gn ?_;refine Br.ab ?_;refine Br.ab ?_;refine Go ?_;refine Br.ab ?_
   try (refine Br.mk (i:=1000) ?_)
   refine Gn ?_;refine G2 ?_;refine Gs [(2,_)] ?_;refine Gt ?_
   exact ⟨[],⟨dC.rd,⟨by simp,_,_,rfl,mJ⟩,by simp⟩,rfl,aH,by rintro b (⟨e,_⟩ | ⟨_,e,_⟩);(simp at e);(simp at e)⟩
 · have hpos:0 < l.length:=List.length_pos_iff.2 h0
   refine calls [(0,_)] Tryz.func260 rfl Tryz.ntmps260 rfl ⟨rfl,trivial⟩ ?_
   refine G2 ?_;refine G2 ?_;refine WL.call (vs:=[_]) rfl Tryz.call294 rfl (gu hr h1 hlm) rfl rfl rfl ?_
   rintro v2 h2 ⟨dC,aH,eN⟩
   obtain ⟨b1,c1,cs,rfl,aQ,hnc,hcm,hcl,hct⟩:=dC.block hpos
   have mw:=aj aQ
   have bO:=eN b1 rfl
   have HT:pZ h2 h2 b1 l 0 []:=⟨Nat.zero_le _,rfl,rfl,⟨cs.drop (l.length * 2),by rw [List.nil_append,List.drop_zero,← hct,List.take_append_drop];exact aQ⟩,by simp,.refl _ _⟩
   refine Go ?_;refine Gs [(3,_)] ?_;refine G3 ?_;refine WC.block ?_;refine WC.bC (X:=Nat × List aX) (fun x=>([(9,In (x.1:Int))]:Fr)) [(3,_),(8,_)] (fun x h'=>pZ h2 h' b1 l x.1 x.2) (fun x=>l.length - x.1) ((0,[])) ⟨rfl,rfl,rfl,trivial⟩ (by exact HT) ?_
   rintro ⟨k,out⟩ h3 ri
   simp only at ri
   have hk:=ri.le
   refine WC.sub [(9,_),(3,_),(8,_)] ⟨rfl,rfl,rfl,trivial⟩ ?_
   dsimp only
   refine G2 ?_;refine WC.seq ?_
   refine aJ 1 2 (Hb.mk fun hb=>?_) (Hb.mk fun hb=>?_)
   all_goals try (
   refine ax 1 ?_
   refine WC.skip ?_
   skip)
   all_goals try (
   refine ax 2 ?_
   refine WC.exit ?_
   repeat' (with_reducible first | refine aU ?_ | refine aG rfl ?_ | refine aI ?_ | refine aL ?_ | refine aS ?_)
   refine Br.out (i:=1000) ?_
   skip)
   all_goals (refine Gn ?_;first | refine Br.ab ?_ | refine WC.seq ?_)
   all_goals (first | refine Br.ab ?_ | refine WC.block ?_)
   all_goals (first | refine Br.ab ?_ | refine WC.sr ?_)
   all_goals (refine Go ?_)
   all_goals (
    first
      | (refine Br.ab ?_)
      | (obtain ⟨⟨n1,v1,s1⟩,ga⟩:∃ y,l[k]?=some y:=⟨_,List.getElem?_eq_getElem (by omega)⟩
         have tL:=ri.ext
         obtain ⟨spare,hblk⟩:=ri.bq
         obtain ⟨rC,hsl⟩:=hok _ (List.mem_of_getElem? ga)
         simp only at rC hsl
         obtain ⟨A1,k1,rfl,_⟩:=id rC
         have E3:Ext No h h3:=aH.trans' tL (fun b hb e=>by omega)
         have atb:At h3 b1 (0+k * 2) [.bool n1,.slice A1 s1.length k1]:=At.elem (xs:=out++l.drop k) aX.len ((At.au hblk).pre) (pY ga ri.len)))
   all_goals (first | refine Br.ab ?_ | refine WC.region ?_)
   all_goals (refine Go ?_;first | refine Br.ab ?_ | (refine WL.step (aF Tryz.underlying40 Tryz.sizeOf85 rfl rfl rfl (by omega) (by first | rfl | assumption)) rfl rfl rfl ?_))
   all_goals (refine Go ?_;first | refine Br.ab ?_ | (refine WL.ld rfl (by first | exact atb.get 1 rfl rfl | assumption) rfl rfl rfl ?_))
   all_goals (
    first
      | (refine Br.ab ?_)
      | (refine WL.call (vs:=[_]) rfl Tryz.call74 rfl (mi s1 (rC.aq E3) hsl) rfl rfl rfl ?_
         rintro v6 h6 ⟨fN,aM,im⟩))
   all_goals (first | refine Br.ab ?_ | obtain ⟨A6,c6,rfl,_⟩:=fN.slice)
   all_goals (first | refine Br.ab ?_ | (refine WL.step (aF Tryz.underlying40 Tryz.sizeOf85 rfl rfl rfl (by omega) (by first | rfl | assumption)) rfl rfl rfl ?_))
   all_goals (refine Go ?_)
   all_goals (
    first
      | (refine Br.ab ?_)
      | (refine WL.az (aC Tryz.sizeOf23 rfl rfl (aM.obj hblk aO) (by simp [cP aX.len,ri.len];omega) rfl rfl) rfl rfl ?_
         rintro _ h7 ⟨bZ,bh⟩))
   all_goals (refine Gn ?_;first | refine Br.ab ?_ | refine Gs [(3,_),(8,_),(9,_)] ?_)
   all_goals (first | refine Br.ab ?_ | refine WC.region ?_)
   all_goals (refine Go ?_;first | refine Br.ab ?_ | (exact ⟨(k+1,out++[_]),⟨rfl,rfl,rfl,trivial⟩,(by exact ri.next ga aM fN im (fun sp e=>by rw [aM.obj hblk aO] at e;simp only [Option.some.injEq,Obj.cells.injEq,Array.mk.injEq] at e;obtain rfl:=List.append_cancel_left e.1;rfl) bZ bh mw hsl),(by simp;omega)⟩))
   try (refine Br.mk (i:=1000) ?_)
   refine Gn ?_;refine G2 ?_;refine Gs [(2,_)] ?_;refine Gt ?_
   obtain rfl:k=l.length:=by omega
   exact ri.done aH bO mw hnc hcm hlm
theorem Gi {h:ah} {b o:Nat} {cs:List Value} {e:TypeId} {n m:Int} (hb:h[b]?=some (.cells ⟨cs⟩ e (0,0))) (ho:cs[o]?=some (In n)) (h0 : -9223372036854775808≤n+m) (h1:n+m≤9223372036854775807) (w:World) (hw:w.heap=h) :
   ∃ u w',eE w w'∧(u=In (n+m)∧w'.heap[b]?=some (.cells ⟨cs.set o (In (n+m))⟩ e (0,0))∧Ext (fun q=>q=b) h w'.heap)∧(callFunc 312 #[.pointer (some ⟨b,o,none⟩),In m]).run Tryz.prog w=.ok (.value u) w':=by
 subst hw
 obtain ⟨w',hr,hs,hh⟩:=ux (P:=Tryz.prog) hb ho h0 h1
 refine ⟨_,w',hs,⟨rfl,by rw [hh];exact dI hb,by rw [hh];exact .set _ _ _ rfl⟩,?_⟩
 rw [run_callFunc_extern (P:=Tryz.prog) (fn:=Tryz.f312) (e:=Extern.Atomic.update (Op.intArith .add) .i64 true) (by kernel_rfl) (by kernel_rfl) rfl (by kernel_rfl) (by kernel_rfl)]
 simp [hr]
theorem Ix {h:ah} {b o:Nat} {cs:List Value} {e:TypeId} {n m:Int} (hb:h[b]?=some (.cells ⟨cs⟩ e (0,0))) (ho:cs[o]?=some (In n)) (h0 : -9223372036854775808≤n+m) (h1:n+m≤9223372036854775807) :
   ag Tryz.prog 295 ⟨[.pointer (some ⟨b,o,none⟩),In m]⟩ h fun u h'=>u=In (n+m)∧h'[b]?=some (.cells ⟨cs.set o (In (n+m))⟩ e (0,0))∧Ext (fun q=>q=b) h h':=by
 refine calls [(0,_),(1,_)] Tryz.func295 rfl Tryz.ntmps295 rfl ⟨rfl,rfl,trivial⟩ ?_
 refine G2 ?_;refine G2 ?_;refine WL.step (ae rfl) rfl rfl rfl (Go ?_);refine WL.ai (so (R:=fun u h'=>u=In (n+m)∧h'[b]?=some (.cells ⟨cs.set o (In (n+m))⟩ e (0,0))∧Ext (fun q=>q=b) h h') (Gi hb ho h0 h1) rfl rfl) rfl rfl rfl ?_
 rintro _ g1 ⟨rfl,aQ,ay⟩
 refine Go ?_;refine Gs [(4,_)] ?_;refine Gt ?_
 exact ⟨rfl,aQ,ay⟩
theorem Au {h:ah} {be me:Nat} {cnt:Int} (hb:h[be]?=some (.cells ⟨[.map (some me),In cnt]⟩ 104 (0,0))) (hc:0≤cnt∧cnt≤1000000) :
   ag Tryz.prog 261 ⟨[.pointer (some ⟨be,0,none⟩)]⟩ h fun u h'=>u=In (cnt+1)∧h'[be]?=some (.cells ⟨[.map (some me),In (cnt+1)]⟩ 104 (0,0))∧Ext (fun q=>q=be) h h':=by
 refine calls [(0,_)] Tryz.func261 rfl Tryz.ntmps261 rfl ⟨rfl,trivial⟩ ?_
 refine G2 ?_;refine G3 ?_;refine WL.call (vs:=[_]) rfl Tryz.call258 rfl (lI hb) rfl rfl rfl ?_
 rintro _ hz ⟨rfl,_⟩
 subst hz
 refine Go ?_
 refine aJ 1 2 ?_ TT.mk
 all_goals (refine ax 2 ?_)
 refine WC.skip ?_;refine Gn ?_;refine Gs [(0,_)] ?_;refine G2 ?_;refine WL.step (ae rfl) rfl rfl rfl (Go ?_);refine WL.call (vs:=[_,_]) rfl Tryz.call295 rfl (Ix hb (o:=1) (n:=cnt) (m:=1) rfl (by omega) (by omega)) rfl rfl rfl ?_
 rintro _ h1 ⟨rfl,aQ,ay⟩
 refine Go ?_;refine Gs [(2,_)] ?_;refine Gt ?_
 exact ⟨rfl,aQ,ay⟩
theorem sq {h:ah} {be me:Nat} {cnt:Int} (hb:h[be]?=some (.cells ⟨[.map (some me),In cnt]⟩ 104 (0,0))) (hc:0≤cnt∧cnt≤1000000) (v:gi) {vp:Value} (ps:List aX) (hp:cF h vp ps) :
   ag Tryz.prog 217 ⟨[.pointer (some ⟨be,0,none⟩),.agg ⟨v.cells⟩,vp]⟩ h fun u h'=>∃ LL,j4 h' u LL∧LL.map Rw.pl=(dc v (ps.map aX.pl) cnt).1∧(∀ q,dN u LL q→h.size≤q)∧h'[be]?=some (.cells ⟨[.map (some me),In (dc v (ps.map aX.pl) cnt).2]⟩ 104 (0,0))∧Ext (fun q=>q=be) h h':=by
 have hlt:=aj hb
 obtain ⟨_,⟨_,A,c,rfl,_⟩,_⟩:=id hp
 unfold gi.cells my
 have hdl:=dt (cnt+1) (by omega)
 rcases (show v.k=5∧dc v (ps.map aX.pl) cnt=(jN (da v.n),cnt)∨v.k=6∧dc v (ps.map aX.pl) cnt=([ps.map aX.pl],cnt)∨v.k=7∧dc v (ps.map aX.pl) cnt=([[(false,dw (cnt+1))]],cnt+1)∨v.k ≠ 5∧v.k ≠ 6∧v.k ≠ 7∧dc v (ps.map aX.pl) cnt=([],cnt) by
   unfold dc
   by_cases e1:v.k=5
   · exact .inl ⟨e1,if_pos e1⟩
   · by_cases e2:v.k=6
     · exact .inr (.inl ⟨e2,by rw [if_neg e1,if_pos e2]⟩)
     · by_cases e3:v.k=7
       · exact .inr (.inr (.inl ⟨e3,by rw [if_neg e1,if_neg e2,if_pos e3]⟩))
       · exact .inr (.inr (.inr ⟨e1,e2,e3,by rw [if_neg e1,if_neg e2,if_neg e3]⟩))) with ⟨e1,e⟩ | ⟨e1,e⟩ | ⟨e1,e⟩ | ⟨e1,e2,e3,e⟩
 all_goals
   rw [e]
   dsimp only
   refine calls [(0,_),(1,_),(2,_)] Tryz.func217 rfl Tryz.ntmps217 rfl ⟨rfl,rfl,rfl,trivial⟩ ?_
   all_goals (refine WC.sr ?_;refine WL.ai (aB rfl) rfl rfl rfl ?_;rintro _ h1 ⟨b1,rfl,bO,aQ,ay⟩;have hbe:=ay.obj hb aO;(have n1:be ≠ b1:=by omega);refine Go ?_;refine G3 ?_;refine WL.call (vs:=[_]) rfl Tryz.call258 rfl (lI hbe) rfl rfl rfl ?_;rintro _ hz ⟨rfl,_⟩;subst hz;refine Go ?_;refine Gs [(0,_),(2,_),(4,_),(9,_)] ?_;refine aJ 1 2 ?_ TT.mk;refine ax 2 ?_;refine WC.skip ?_;refine Gn ?_;refine G3 ?_;refine Ld ?_;refine Gn ?_;refine WC.block ?_;refine G2 ?_;refine aJ 3 4 ?_ TT.mk)
   all_goals try (
   refine ax 3 ?_
   all_goals (refine G2 ?_;refine Ld ?_;refine WL.call (vs:=[_]) rfl Tryz.call259 rfl (xt v.n) rfl rfl rfl ?_;rintro u2 h2 ⟨L2,r2,p2,aH,f2⟩;have X2:=ay.trans aH;refine Go ?_;refine Gs [(6,_)] ?_;refine Gt ?_)
   all_goals (
    first
     | exact ⟨L2,r2,p2,fun q hq=>by have:=f2 q hq;have:=ay.size;omega,X2.obj hb aO,X2.mono fun _ _ e=>e.elim⟩
     | exact ⟨[⟨_, l2⟩], ⟨bz bn rfl, ⟨by simp [reachBytes], _, _, rfl, by simp [maxLen]⟩, by simpa using r2.aq aP⟩, by simp [Rw.pl, p2], fun q hq => by
         rcases hq with ⟨_,e⟩ | ⟨r,hr,e⟩
         · simp [Value.ownBlock] at e;have:=ay.size;have:=aH.size;omega
         · simp at hr;subst hr;have:=f2 q e;have:=ay.size;omega,X3.obj hb aO,X3.mono fun _ _ e=>e.elim⟩
     | exact ⟨[⟨_, [⟨false, .slice (some ⟨b4, 0, none⟩) (dw (cnt + 1)).length c4, dw (cnt + 1)⟩]⟩], ⟨bz bN rfl, ⟨by simp [reachBytes], _, _, rfl, by simp [maxLen]⟩, by simpa using kU (Ht.aq (aN.trans aM)) (by omega) (aM.obj bT aO)⟩, rfl, fun q hq => by
         have:=ay.size;have:=aH.size;have:=aP.size;have:=aW.size;have:=aN.size
         rcases hq with ⟨_,e⟩ | ⟨r,hr,e⟩
         · simp [Value.ownBlock] at e;omega
         · simp at hr;subst hr
           rcases e with ⟨_,e⟩ | ⟨r,hr,_,e⟩
           · simp [Value.ownBlock] at e;omega
           · simp at hr;subst hr;simp [Value.ownBlock] at e;omega,qV.obj bH aO,(ay.mono fun _ _ e=>e.elim).trans (aH.trans (qV.mono fun _ _ e=>e.elim))⟩
     | exact ⟨[],⟨Rd.nil _ _,⟨by simp,_,_,rfl,by simp [maxLen]⟩,by simp⟩,rfl,fun q hq=>(jc rfl hq).elim,hbe,ay.mono fun _ _ e=>e.elim⟩)
   skip)
   all_goals (refine ax 4 ?_;refine G2 ?_;refine Gs [(0,_),(2,_),(11,_),(17,_)] ?_;refine aJ 5 6 ?_ TT.mk)
   all_goals try (
   refine ax 5 ?_
   all_goals (refine G2 ?_;refine WL.call (vs:=[_]) rfl Tryz.call260 rfl (Dd ps (hp.aq ay)) rfl rfl rfl ?_;rintro u2 h2 ⟨l2,r2,p2,aH,f2⟩;obtain ⟨A2,c2,rfl⟩:∃ A c,u2=.slice A l2.length c:=(by obtain ⟨_,⟨_,A,c,e,_⟩,_⟩:=r2;exact ⟨A,c,e⟩);refine WL.ai (aw (vs:=[_]) (cs:=[_]) (fun | [a0]=>[a0] | _=>[]) Tryz.underlying271 rfl rfl (by kernel_rfl)) rfl rfl rfl ?_;rintro _ h3 ⟨b3,rfl,gb,bn,aP⟩;have X3:=(ay.trans aH).trans aP;refine Go ?_;refine Gs [(6,_)] ?_;refine Gt ?_)
   all_goals (
    first
     | exact ⟨L2,r2,p2,fun q hq=>by have:=f2 q hq;have:=ay.size;omega,X2.obj hb aO,X2.mono fun _ _ e=>e.elim⟩
     | exact ⟨[⟨_, l2⟩], ⟨bz bn rfl, ⟨by simp [reachBytes], _, _, rfl, by simp [maxLen]⟩, by simpa using r2.aq aP⟩, by simp [Rw.pl, p2], fun q hq => by
         rcases hq with ⟨_,e⟩ | ⟨r,hr,e⟩
         · simp [Value.ownBlock] at e;have:=ay.size;have:=aH.size;omega
         · simp at hr;subst hr;have:=f2 q e;have:=ay.size;omega,X3.obj hb aO,X3.mono fun _ _ e=>e.elim⟩
     | exact ⟨[⟨_, [⟨false, .slice (some ⟨b4, 0, none⟩) (dw (cnt + 1)).length c4, dw (cnt + 1)⟩]⟩], ⟨bz bN rfl, ⟨by simp [reachBytes], _, _, rfl, by simp [maxLen]⟩, by simpa using kU (Ht.aq (aN.trans aM)) (by omega) (aM.obj bT aO)⟩, rfl, fun q hq => by
         have:=ay.size;have:=aH.size;have:=aP.size;have:=aW.size;have:=aN.size
         rcases hq with ⟨_,e⟩ | ⟨r,hr,e⟩
         · simp [Value.ownBlock] at e;omega
         · simp at hr;subst hr
           rcases e with ⟨_,e⟩ | ⟨r,hr,_,e⟩
           · simp [Value.ownBlock] at e;omega
           · simp at hr;subst hr;simp [Value.ownBlock] at e;omega,qV.obj bH aO,(ay.mono fun _ _ e=>e.elim).trans (aH.trans (qV.mono fun _ _ e=>e.elim))⟩
     | exact ⟨[],⟨Rd.nil _ _,⟨by simp,_,_,rfl,by simp [maxLen]⟩,by simp⟩,rfl,fun q hq=>(jc rfl hq).elim,hbe,ay.mono fun _ _ e=>e.elim⟩)
   skip)
   all_goals (refine ax 6 ?_;refine G2 ?_;refine Gs [(0,_),(22,_)] ?_;refine aJ 7 8 ?_ TT.mk)
   all_goals try (
   refine ax 7 ?_
   all_goals (refine G2 ?_;refine WL.call (vs:=[_]) rfl Tryz.call261 rfl (Au hbe hc) rfl rfl rfl ?_;rintro _ h2 ⟨rfl,bH,aH⟩;refine WL.call (vs:=[_]) rfl Tryz.call246 rfl (gS (cnt+1) (by omega) (by omega)) rfl rfl rfl ?_;rintro _ h3 ⟨rfl,aP⟩;refine WL.ai (jS Tryz.underlying9 Tryz.underlying23 Tryz.underlying5 rfl) rfl rfl rfl ?_;rintro _ h4 ⟨b4,c4,rfl,oF,Ht,aW⟩;refine WL.step (aD (vs:=[_]) (cs:=[_,_]) (fun | [a1]=>[(.bool false),a1] | _=>[]) rfl rfl (by kernel_rfl)) rfl rfl rfl ?_;refine WL.ai (aw (vs:=[_]) (cs:=[_,_]) (fun | [.agg ⟨[a0,a1]⟩]=>[a0,a1] | _=>[]) Tryz.underlying40 rfl rfl (by kernel_rfl)) rfl rfl rfl ?_;rintro _ h5 ⟨b5,rfl,pQ,bT,aN⟩;refine WL.ai (aw (vs:=[_]) (cs:=[_]) (fun | [a0]=>[a0] | _=>[]) Tryz.underlying271 rfl rfl (by kernel_rfl)) rfl rfl rfl ?_;rintro _ h6 ⟨b6,rfl,oG,bN,aM⟩;have qV:=((aP.trans aW).trans aN).trans aM;refine Go ?_;refine Gs [(6,_)] ?_;refine Gt ?_)
   all_goals (
    first
     | exact ⟨L2,r2,p2,fun q hq=>by have:=f2 q hq;have:=ay.size;omega,X2.obj hb aO,X2.mono fun _ _ e=>e.elim⟩
     | exact ⟨[⟨_, l2⟩], ⟨bz bn rfl, ⟨by simp [reachBytes], _, _, rfl, by simp [maxLen]⟩, by simpa using r2.aq aP⟩, by simp [Rw.pl, p2], fun q hq => by
         rcases hq with ⟨_,e⟩ | ⟨r,hr,e⟩
         · simp [Value.ownBlock] at e;have:=ay.size;have:=aH.size;omega
         · simp at hr;subst hr;have:=f2 q e;have:=ay.size;omega,X3.obj hb aO,X3.mono fun _ _ e=>e.elim⟩
     | exact ⟨[⟨_, [⟨false, .slice (some ⟨b4, 0, none⟩) (dw (cnt + 1)).length c4, dw (cnt + 1)⟩]⟩], ⟨bz bN rfl, ⟨by simp [reachBytes], _, _, rfl, by simp [maxLen]⟩, by simpa using kU (Ht.aq (aN.trans aM)) (by omega) (aM.obj bT aO)⟩, rfl, fun q hq => by
         have:=ay.size;have:=aH.size;have:=aP.size;have:=aW.size;have:=aN.size
         rcases hq with ⟨_,e⟩ | ⟨r,hr,e⟩
         · simp [Value.ownBlock] at e;omega
         · simp at hr;subst hr
           rcases e with ⟨_,e⟩ | ⟨r,hr,_,e⟩
           · simp [Value.ownBlock] at e;omega
           · simp at hr;subst hr;simp [Value.ownBlock] at e;omega,qV.obj bH aO,(ay.mono fun _ _ e=>e.elim).trans (aH.trans (qV.mono fun _ _ e=>e.elim))⟩
     | exact ⟨[],⟨Rd.nil _ _,⟨by simp,_,_,rfl,by simp [maxLen]⟩,by simp⟩,rfl,fun q hq=>(jc rfl hq).elim,hbe,ay.mono fun _ _ e=>e.elim⟩)
   skip)
   all_goals (refine ax 8 ?_;refine WC.skip ?_;refine Gn ?_;refine G2 ?_;refine Gt ?_)
   all_goals (
    first
     | exact ⟨L2,r2,p2,fun q hq=>by have:=f2 q hq;have:=ay.size;omega,X2.obj hb aO,X2.mono fun _ _ e=>e.elim⟩
     | exact ⟨[⟨_, l2⟩], ⟨bz bn rfl, ⟨by simp [reachBytes], _, _, rfl, by simp [maxLen]⟩, by simpa using r2.aq aP⟩, by simp [Rw.pl, p2], fun q hq => by
         rcases hq with ⟨_,e⟩ | ⟨r,hr,e⟩
         · simp [Value.ownBlock] at e;have:=ay.size;have:=aH.size;omega
         · simp at hr;subst hr;have:=f2 q e;have:=ay.size;omega,X3.obj hb aO,X3.mono fun _ _ e=>e.elim⟩
     | exact ⟨[⟨_, [⟨false, .slice (some ⟨b4, 0, none⟩) (dw (cnt + 1)).length c4, dw (cnt + 1)⟩]⟩], ⟨bz bN rfl, ⟨by simp [reachBytes], _, _, rfl, by simp [maxLen]⟩, by simpa using kU (Ht.aq (aN.trans aM)) (by omega) (aM.obj bT aO)⟩, rfl, fun q hq => by
         have:=ay.size;have:=aH.size;have:=aP.size;have:=aW.size;have:=aN.size
         rcases hq with ⟨_,e⟩ | ⟨r,hr,e⟩
         · simp [Value.ownBlock] at e;omega
         · simp at hr;subst hr
           rcases e with ⟨_,e⟩ | ⟨r,hr,_,e⟩
           · simp [Value.ownBlock] at e;omega
           · simp at hr;subst hr;simp [Value.ownBlock] at e;omega,qV.obj bH aO,(ay.mono fun _ _ e=>e.elim).trans (aH.trans (qV.mono fun _ _ e=>e.elim))⟩
     | exact ⟨[],⟨Rd.nil _ _,⟨by simp,_,_,rfl,by simp [maxLen]⟩,by simp⟩,rfl,fun q hq=>(jc rfl hq).elim,hbe,ay.mono fun _ _ e=>e.elim⟩)
section
variable {h h':ah} {A:Ad} {st:Int} {sk ov:Bool} {cnt:Int} {L:List (List UInt8 × gR)} {P:List (List UInt8 × ez)}
theorem Ss.Av (k:Ss h A st sk ov cnt L P) {cnt':Int} (x:Ext (fun z=>z=A.be) h h') (hb:h'[A.be]?=some (.cells ⟨[.map (some A.me),In cnt']⟩ 104 (0,0))) (hc:0≤cnt'∧cnt'≤1000000):Ss h' A st sk ov cnt' L P∧Tn A P h h' P:=by
 have e:=k.se
 refine ⟨⟨⟨x.obj e.bq (bA e.bq e.eb (by decide)),e.stm.ext x (fun z=>eo e.stm e.eb z.symm),x.obj e.pb (bA e.pb e.eb (by decide)),e.pm.ext x (fun z=>eo e.pm e.eb z.symm),hb,e.em.ext x (fun z=>eo e.em e.eb z.symm),e.ne⟩,
   fun q hq=>⟨(k.sok q hq).1.ext' x (fun z h0 hz e=>(k.sok q hq).2.2 z h0 hz (.inr (.inr (.inr (.inl e))))),(k.sok q hq).2⟩,
   fun q hq=>⟨x.obj (k.pok q hq).1 (bA (k.pok q hq).1 e.eb (by decide)),(k.pok q hq).2.1.ext x (fun z hz e=>(k.pok q hq).2.2 z hz (.inr (.inr (.inr (.inl e))))),(k.pok q hq).2.2⟩,k.dis,k.sto,hc,k.zz.up x.size⟩,Tn.same x (fun q e=>.inr (.inr (.inr (.inl e))))⟩
theorem EJ (k:Ss h A st sk ov cnt L P) {n:List UInt8} {i:ez} (hi:bJ P n=some i) {v:Value} (R:List Rw) (hd:i.d.ran=false) (hR:j4 h v R):ag Tryz.prog 216 ⟨[.pointer (some ⟨A.bp,0,none⟩),St n,v]⟩ h fun u h'=>u=.bool true∧∃ P' i',Ss h' A st sk ov cnt L P'∧fZ P'=cx (fZ P) n (i.d.text,i.d.oids,i.d.ps.map aX.pl,R.map Rw.pl,true,i.d.over)∧bJ P' n=some i'∧i'.d.pl=(i.d.text,i.d.oids,i.d.ps.map aX.pl,R.map Rw.pl,true,i.d.over)∧Tn A P h h' P'∧Ext (fun q=>q=i.p) h h':=by
 refine (HW (k.pe hi) R hd hR).mono fun u h' ⟨e,v',R',pe',hp',hf',hx⟩=>⟨e,?_⟩
 have kk:=k.Im hi hx pe'.bq pe'.ok (fun z hz=>by
   rcases hz with hz | hz | hz
   · exact .inl (.inl hz)
   · exact .inl (.inr (.inl hz))
   · exact .inr (hf' z hz))
 have hpl:PD.pl { i.d with vr:=v',rs:=R',ran:=true }=(i.d.text,i.d.oids,i.d.ps.map aX.pl,R.map Rw.pl,true,i.d.over):=by simp only [PD.pl,hp']
 have hnd:(P.map (·.1)).Nodup:=by
   have:=Mp.nodup fJ k.se.pm
   rwa [lK] at this
 exact ⟨_,_,kk.1,by rw [qi];exact congrArg _ hpl,by rw [zT hnd,if_pos rfl],hpl,kk.2,hx⟩
theorem vQ (k:Ss h A st sk ov cnt L P) {n:List UInt8} {i:ez} (hi:bJ P n=some i) (most:Int) (hd:i.d.ran=true):ag Tryz.prog 219 ⟨[.pointer (some ⟨A.bp,0,none⟩),St n,In most]⟩ h fun u h' =>
   ∃ v R P',u=.tuple ⟨[v,.bool (!(dP (i.d.rs.map Rw.pl) i.d.over most).2.2)]⟩∧j4 h' v R∧R.map Rw.pl=(dP (i.d.rs.map Rw.pl) i.d.over most).1∧Ss h' A st sk ov cnt L P'∧fZ P'=cx (fZ P) n (i.d.text,i.d.oids,i.d.ps.map aX.pl,(dP (i.d.rs.map Rw.pl) i.d.over most).2.1,true,(dP (i.d.rs.map Rw.pl) i.d.over most).2.2)∧Tn A P h h' P'∧Ext (fun q=>q=i.p) h h':=by
 have hnd:(P.map (·.1)).Nodup:=by
   have:=Mp.nodup fJ k.se.pm
   rwa [lK] at this
 have hput:∀ d:PD,d.pl=i.d.pl→cx (fZ P) n d.pl=fZ P:=fun d e=>by
   rw [e]
   have hg:bJ (fZ P) n=some i.d.pl:=by rw [gy,hi];rfl
   unfold cx
   rw [if_pos (by rw [hg];rfl)]
   have hnd':((fZ P).map (·.1)).Nodup:=by
     rw [show (fZ P).map (·.1)=P.map (·.1) by simp [fZ]]
     exact hnd
   refine (List.map_congr_left fun q hq=>?_).trans (List.map_id' _)
   by_cases hqn:q.1=n
   · rw [if_pos hqn]
     have:=mQ hnd' (show (q.1,q.2)∈fZ P from hq)
     rw [hqn,hg] at this
     rw [Option.some.inj this,← hqn]
   · rw [if_neg hqn]
 by_cases hov:i.d.over=true
 · refine (rQ (k.pe hi) most hd hov).mono fun u h' ⟨e,e2⟩=>?_
   subst e2
   have ef:dP (i.d.rs.map Rw.pl) i.d.over most=([],i.d.rs.map Rw.pl,true):=by unfold dP;rw [if_pos hov]
   rw [ef]
   refine ⟨_,[],P,e,⟨Rd.nil _ _,⟨by simp,_,_,rfl,by simp [maxLen]⟩,by simp⟩,rfl,k,?_,Tn.no (.refl _ _),.refl _ _⟩
   have:=hput i.d rfl
   simp only [PD.pl,hd,hov] at this
   exact this.symm
 · have hov':i.d.over=false:=by simpa using hov
   have key : ∀ m : Nat, m ≤ i.d.rs.length → dP (i.d.rs.map Rw.pl) i.d.over most = ((i.d.rs.map Rw.pl).take m, (i.d.rs.map Rw.pl).drop m, decide (((i.d.rs.map Rw.pl).drop m).length = 0)) →
       ag Tryz.prog 219 ⟨[.pointer (some ⟨A.bp,0,none⟩),St n,In most]⟩ h (fun u h'=>∃ vo vr',u=.tuple ⟨[vo,.bool (!decide (((i.d.rs.length - m:Nat):Int)=0))]⟩∧j4 h' vo (i.d.rs.take m)∧Pe h' A.bp A.mp (fh vJ P) i.p n { i.d with vr:=vr',rs:=i.d.rs.drop m,over:=decide (((i.d.rs.length - m:Nat):Int)=0) }∧(∀ k,dN vo (i.d.rs.take m) k→dN i.d.vr i.d.rs k)∧(∀ k,dN vr' (i.d.rs.drop m) k→dN i.d.vr i.d.rs k)∧Ext (fun k=>k=i.p) h h') →
       ag Tryz.prog 219 ⟨[.pointer (some ⟨A.bp,0,none⟩),St n,In most]⟩ h fun u h'=>∃ v R P',u=.tuple ⟨[v,.bool (!(dP (i.d.rs.map Rw.pl) i.d.over most).2.2)]⟩∧j4 h' v R∧R.map Rw.pl=(dP (i.d.rs.map Rw.pl) i.d.over most).1∧Ss h' A st sk ov cnt L P'∧fZ P'=cx (fZ P) n (i.d.text,i.d.oids,i.d.ps.map aX.pl,(dP (i.d.rs.map Rw.pl) i.d.over most).2.1,true,(dP (i.d.rs.map Rw.pl) i.d.over most).2.2)∧Tn A P h h' P'∧Ext (fun q=>q=i.p) h h':=fun m hm ef hc=>by
     have ed:decide (((i.d.rs.length - m:Nat):Int)=0)=decide (((i.d.rs.map Rw.pl).drop m).length=0):=by
       rw [List.length_drop,List.length_map]
       exact decide_eq_decide.2 ⟨fun e=>by omega,fun e=>by omega⟩
     rw [ef]
     refine hc.mono fun u h' ⟨vo,vr',e,hr,pe',_,hf,hx⟩=>?_
     rw [ed] at e pe'
     have kk:=k.Im hi hx pe'.bq pe'.ok (fun z hz=>by
       rcases hz with hz | hz | hz
       · exact .inl (.inl hz)
       · exact .inl (.inr (.inl hz))
       · exact .inl (.inr (.inr (hf z hz))))
     refine ⟨vo,_,_,e,hr,List.map_take ..,kk.1,?_,kk.2,hx⟩
     rw [qi]
     refine congrArg _ ?_
     simp only [PD.pl,hd,List.map_drop]
   by_cases hmo:0 < most
   · have ef : dP (i.d.rs.map Rw.pl) i.d.over most = ((i.d.rs.map Rw.pl).take (min i.d.rs.length most.toNat), (i.d.rs.map Rw.pl).drop (min i.d.rs.length most.toNat), decide (((i.d.rs.map Rw.pl).drop (min i.d.rs.length most.toNat)).length = 0)) := by
       unfold dP
       rw [if_neg hov]
       simp only [if_pos hmo,List.length_map]
     exact key _ (Nat.min_le_left _ _) ef (rP (n:=min i.d.rs.length most.toNat) (k.pe hi) most hmo (by omega) hd hov')
   · have ef : dP (i.d.rs.map Rw.pl) i.d.over most = ((i.d.rs.map Rw.pl).take i.d.rs.length, (i.d.rs.map Rw.pl).drop i.d.rs.length, decide (((i.d.rs.map Rw.pl).drop i.d.rs.length).length = 0)) := by
       unfold dP
       rw [if_neg hov]
       simp only [if_neg hmo,List.length_map]
     exact key _ (Nat.le_refl _) ef (tS (k.pe hi) most hmo hd hov')
end
theorem lR {κ α:Type} [DecidableEq κ] {E:List (κ × α)} {n:κ} (v:α) (hs:(bJ E n).isSome=true):cx E n v=E.map (fun p=>if p.1=n then (n,v) else p):=if_pos hs
theorem oZ {κ α:Type} [DecidableEq κ] {E:List (κ × α)} {n:κ} (v:α) (hs:bJ E n=none):cx E n v=E++[(n,v)]:=if_neg (by rw [hs];simp)
theorem xz {κ α:Type} [DecidableEq κ] (E:List (κ × α)) (n:κ) (v w:α):cx (cx E n v) n w=cx E n w:=by
 have hs:(bJ (cx E n v) n).isSome=true:=by
   rw [gQ,lL]
   split
   · assumption
   · simp
 rw [lR w hs]
 rcases hg:bJ E n with _ | u
 · rw [oZ v hg,oZ w hg,List.map_append]
   congr 1
   · refine (List.map_congr_left fun q hq=>?_).trans (List.map_id' _)
     rw [if_neg (mP hg q hq)]
   · simp
 · have xY:(bJ E n).isSome=true:=by rw [hg];rfl
   rw [lR v xY,lR w xY,List.map_map]
   refine List.map_congr_left fun q hq=>?_
   simp only [Function.comp]
   by_cases e:q.1=n
   · rw [if_pos e,if_pos rfl,if_pos e]
   · rw [if_neg e,if_neg e]
def jP (rs:List (List eK)):Prop:=rs.length≤100000∧∀ r∈rs,r.length≤100000
theorem gX (v:gi) {ps:List eK} (c:Int) (h:ps.length≤100000):jP (dc v ps c).1:=by
 unfold dc
 split
 · have:=jv v.n
   refine ⟨by rw [lO];omega,fun r hr=>?_⟩
   obtain ⟨i,_,rfl⟩:=List.mem_map.1 hr
   simp [C5]
 · split
   · exact ⟨by simp,by simpa using h⟩
   · split
     · exact ⟨by simp,by simp⟩
     · exact ⟨by simp,by simp⟩
theorem su {rs:List (List eK)} (ov:Bool) (m:Int) (h:jP rs):jP (dP rs ov m).1:=by
 unfold dP
 split
 · exact ⟨by simp,by simp⟩
 · exact ⟨by dsimp only;rw [List.length_take];have:=h.1;omega,fun r hr=>h.2 r (List.mem_of_mem_take hr)⟩
theorem Aw {R:List Rw} {rs:List (List eK)} (e:R.map Rw.pl=rs) (h:jP rs):R.length≤100000∧∀ r∈R,r.l.length≤1000000:=by
 subst e
 refine ⟨by simpa using h.1,fun r hr=>?_⟩
 have:=h.2 _ (List.mem_map.2 ⟨r,hr,rfl⟩)
 simp only [Rw.pl,List.length_map] at this
 omega
section
variable {h h':ah} {A:Ad} {st:Int} {sk ov:Bool} {cnt:Int} {L:List (List UInt8 × gR)} {P:List (List UInt8 × ez)}
theorem o0 {g2 g3:ah} {v:Value} {cnt':Int} {P':List (List UInt8 × ez)} {B:List Bk} {r:gj} (k2:Ss g2 A st sk ov cnt' L P') (T2:Tn A P h g2 P') (O:cB g2 g3 v B) (hx:Ext No g2 g3) (hp:B.map Bk.p=r.2.1) (he:r.2.2=none)
   (h1:r.1.st=st) (h2:r.1.sk=sk) (h3:r.1.ov=ov) (h4:r.1.cnt=cnt') (h5:r.1.L=qh L) (h6:r.1.P=fZ P'):ct h A P r (.tuple ⟨[v,fY none]⟩) g3:=by
 obtain ⟨⟨ot,EK,Ax,Nj,L1,P1⟩,B1,e1⟩:=r
 dsimp only at *
 subst he h1 h2 h3 h4 h5 h6
 exact ⟨v,B,(fun e=>absurd rfl e),rfl,O.mono T2.1.size,hp,L,P',k2.aq hx,rfl,rfl,T2.trans (Tn.no hx)⟩
theorem uy (k:Ss h A st sk ov cnt L P) (lm:jB (cw st sk ov cnt L P)) (f:Fm) (hf:f.ok h) (fl:gW f) {i:ez} (he:gU (cw st sk ov cnt L P) f.portal=none) (hi:bJ P f.portal=some i) (hr:gx (bj i.d.text)=true) :
   ag Tryz.prog 149 ⟨[.pointer (some ⟨A.bs,0,none⟩),.agg ⟨f.cells⟩]⟩ h (ct h A P (ck (cw st sk ov cnt L P) f.p)):=by
 have hgl:bJ (cw st sk ov cnt L P).P f.portal=some i.d.pl:=by show bJ (fZ P) f.portal=_;rw [gy,hi];rfl
 have htl:=lm.tp _ (ca hi)
 have hcl:cnt < 1000000:=lm.c
 have hco:=k.cok
 obtain ⟨⟨e1,_⟩,⟨e2,_⟩,⟨e3,_⟩,e4,_⟩:=hf
 obtain ⟨oX,nX,xy,j5,Ak,_⟩:=fl
 obtain ⟨fk,w,n,p,t,vo,o,vf,fs,vs,rs,vp,ps,mx⟩:=f
 dsimp only at e1 e2 e3 e4 oX nX xy j5 Ak he hi hgl htl
 obtain ⟨A1,c1,rfl,_⟩:=e1
 obtain ⟨_,_,rfl,_⟩:=e2
 obtain ⟨_,_,rfl,_⟩:=e3
 obtain ⟨A4,c4,rfl,_⟩:=e4
 dsimp only [Fm.cells,Fm.p]
 have hpe : ck (cw st sk ov cnt L P) ⟨fk, w, n, p, t, o, ps.map aX.pl, mx⟩ =
     ({ cw st sk ov cnt L P with cnt:=(if i.d.ran=true then (i.d.rs.map Rw.pl,cnt) else dc (bj i.d.text) (i.d.ps.map aX.pl) cnt).2,P:=cx (fZ P) p (i.d.text,i.d.oids,i.d.ps.map aX.pl,(dP (if i.d.ran=true then (i.d.rs.map Rw.pl,cnt) else dc (bj i.d.text) (i.d.ps.map aX.pl) cnt).1 i.d.over mx).2.1,true,(dP (if i.d.ran=true then (i.d.rs.map Rw.pl,cnt) else dc (bj i.d.text) (i.d.ps.map aX.pl) cnt).1 i.d.over mx).2.2) },
       cU (dP (if i.d.ran=true then (i.d.rs.map Rw.pl,cnt) else dc (bj i.d.text) (i.d.ps.map aX.pl) cnt).1 i.d.over mx).1 (!(dP (if i.d.ran=true then (i.d.rs.map Rw.pl,cnt) else dc (bj i.d.text) (i.d.ps.map aX.pl) cnt).1 i.d.over mx).2.2),none):=by
   unfold ck
   dsimp only
   rw [he,hgl]
   unfold PD.pl
   dsimp only
   rw [if_pos hr]
   rfl
 rw [hpe]
 clear hpe
 have kp:=fun h'=>oK (h:=h') i.d.text (by omega)
 have kr:=fun h'=>kS (h:=h') (bj i.d.text)
 have ke:=fun (g:ah) (cn:Int) (hb:g[A.be]?=some (.cells ⟨[.map (some A.me),In cn]⟩ 104 (0,0))) (hc:0≤cn∧cn≤1000000) (vp:Value) (ps:List aX) (hp:cF g vp ps)=>sq hb hc (bj i.d.text) ps hp
 rw [hr] at kr
 unfold gi.cells my at kp kr ke
 cases hran:i.d.ran
 · rw [if_neg (by decide)]
   refine calls [(0,_),(1,_)] Tryz.func149 rfl Tryz.ntmps149 rfl ⟨rfl,rfl,trivial⟩ ?_
   refine WC.sr ?_;refine WL.ai (aB rfl) rfl rfl rfl ?_
   rintro _ h1 ⟨b3,rfl,bO,aQ,ay⟩
   refine Go ?_;refine G2 ?_;refine WL.ld rfl (by first | exact aa aQ rfl | assumption) rfl rfl rfl ?_
   refine WL.call (vs:=[_,_]) rfl Tryz.call213 rfl (eT (k.aq ay) lm p nX) rfl rfl rfl ?_
   rintro _ h2 ⟨⟨d2,rfl,iN,f2,hq'⟩,aH⟩
   rw [he] at hq' ⊢
   dsimp only [fY]
   refine Go ?_;refine WL.ai (av (fun w=>Tryz.zeroValue273 w)) rfl rfl rfl ?_
   rintro _ h3 ⟨b6,rfl,gb,bn,aP⟩
   refine WL.az (al Tryz.sizeOf273 rfl rfl rfl bn rfl (fg iN)) rfl rfl ?_
   rintro _ h4 ⟨bx,aW⟩
   have iH:Ext No h1 h4:=aH.trans (aP.trans' aW (fun q hq e=>by omega))
   have X4:=ay.trans iH
   have bP:=iH.obj aQ aO
   obtain ⟨i',hi',kP⟩:=hq' rfl
   have hii:=Option.some.inj (hi.symm.trans hi')
   subst hii
   have ln:=iN.ext (aP.trans' (S:=No) aW (fun q hq e=>by omega)) (fun _ _=>aO)
   have hti:d2.text=i.d.text:=congrArg (·.1) kP
   have htp:d2.ps.map aX.pl=i.d.ps.map aX.pl:=congrArg (·.2.2.1) kP
   have htr:d2.ran=i.d.ran:=congrArg (·.2.2.2.2.1) kP
   obtain ⟨text,vo,oids,Hu,JD,vr,JE,De,vR⟩:=d2
   dsimp only at hti htp htr
   subst hti
   subst htr
   dsimp only [PD.cells] at bx
   obtain ⟨A6,c6,hvo,_⟩:=id ln.oids
   have okp:=ln.ps
   obtain ⟨_,⟨_,A7,c7,hvp,_⟩,_⟩:=id ln.ps
   obtain ⟨_,⟨_,A8,c8,hvr,_⟩,_⟩:=id ln.rs
   dsimp only at hvo hvp hvr okp
   subst hvo
   subst hvp
   subst hvr
   refine Go ?_;refine Gs [(0,_),(3,_),(6,_),(7,_)] ?_;refine G3 ?_;refine WL.step (cR (by kernel_rfl) rfl rfl) rfl rfl rfl ?_
   refine Gn ?_
   refine aJ 1 2 ?_ TT.mk
   all_goals (refine ax 2 ?_)
   refine WC.skip ?_;refine Gn ?_;refine G2 ?_;refine WL.ld rfl (by first | exact aa bx rfl | assumption) rfl rfl rfl ?_
   refine WL.call (vs:=[_]) rfl Tryz.call214 rfl (kp _) rfl rfl rfl ?_
   rintro _ h5 ⟨rfl,aN⟩
   refine WL.ai (av (fun w=>Tryz.zeroValue278 w)) rfl rfl rfl ?_
   rintro _ h6 ⟨b8,rfl,oG,bN,aM⟩
   refine WL.az (al Tryz.sizeOf278 rfl rfl rfl bN rfl (by simp [Value.oneCell'])) rfl rfl ?_
   rintro _ h7 ⟨bZ,bh⟩
   have Df:Ext No h4 h7:=aN.trans (aM.trans' bh (fun q hq e=>by omega))
   refine Gn ?_;refine Gs [(0,_),(3,_),(6,_),(8,_)] ?_;refine WC.seq ?_;refine WC.sr ?_;refine WL.step (an Tryz.isAgg278 Tryz.sizeOf278 rfl rfl (by exact At.au bZ)) rfl rfl rfl ?_
   refine WL.call (vs:=[_]) rfl Tryz.call215 rfl (kr _) rfl rfl rfl ?_
   rintro _ h8 ⟨rfl,bD⟩
   have j6:=Df.trans bD
   have X8:=X4.trans j6
   have nH:=j6.obj bx aO
   have mB:=bD.obj bZ aO
   have gh:=j6.obj bP aO
   have Ay:=okp.aq j6
   have k8:=k.aq X8
   refine Gn ?_
   refine aJ 3 4 ?_ TT.mk
   all_goals (refine ax 3 ?_)
   refine G3 ?_;refine WL.ld rfl (by first | exact aa nH rfl | assumption) rfl rfl rfl ?_
   rw [hran]
   have xA:=(k8.pok _ (ca hi)).1
   have n1:¬ (A.bs=A.be∨A.bs=i.p):=fun e=>e.elim (bA k8.se.bq k8.se.eb (by decide)) (bA k8.se.bq xA (by decide))
   have n2:¬ (b3=A.be∨b3=i.p):=fun e=>e.elim (bA gh k8.se.eb (by decide)) (bA gh xA (by decide))
   have n3:¬ (b6=A.be∨b6=i.p):=fun e=>e.elim (bA nH k8.se.eb (by decide)) (fun e=>by have:=aH.size;have:i.p < h.size:=aj ((k.pok _ (ca hi)).1);have:=ay.size;omega)
   have n4:¬ (b8=A.be∨b8=i.p):=fun e=>e.elim (bA mB k8.se.eb (by decide)) (bA mB xA (by decide))
   refine WL.step (cL rfl) rfl rfl rfl ?_;refine Gn ?_;refine Gs [(0,_),(3,_),(6,_),(8,_),(28,_)] ?_
   refine aJ 5 6 ?_ TT.mk
   all_goals (refine ax 5 ?_)
   refine WC.bW (fun h'=>Ext (fun q=>q=A.be∨q=i.p) h8 h') 15 15 rfl dk ?_
   refine WH.tk 0 rfl (fun hq hC=>ak rfl) rfl rfl rfl ?_
   refine WH.tk 1 rfl (fun hq hC=>ae rfl) rfl rfl rfl ?_
   refine WH.tk 2 rfl (fun hq hC=>ad rfl Tryz.underlying153 rfl Tryz.sizeOf150) rfl rfl rfl ?_
   refine WH.tk 3 rfl (fun hq hC=>aA Tryz.isAgg150 rfl (by first | exact hC.cell (by first | exact aa k8.se.bq rfl | assumption) (by first | exact n1 | exact n2 | exact n3))) rfl rfl rfl ?_
   refine WH.tk 4 rfl (fun hq hC=>ad rfl Tryz.underlying42 rfl Tryz.sizeOf9) rfl rfl rfl ?_
   refine WH.tk 5 rfl (fun hq hC=>aA Tryz.isAgg9 rfl (by first | exact hC.cell (by first | exact aa gh rfl | assumption) (by first | exact n1 | exact n2 | exact n3))) rfl rfl rfl ?_
   refine WH.tk 6 rfl (fun hq hC=>ak rfl) rfl rfl rfl ?_
   refine WH.tk 7 rfl (fun hq hC=>ae rfl) rfl rfl rfl ?_
   refine WH.tk 8 rfl (fun hq hC=>ad rfl Tryz.underlying153 rfl Tryz.sizeOf46) rfl rfl rfl ?_
   refine WH.tk 9 rfl (fun hq hC=>aA Tryz.isAgg46 rfl (by first | exact hC.cell (by first | exact aa k8.se.bq rfl | assumption) (by first | exact n1 | exact n2 | exact n3))) rfl rfl rfl ?_
   refine WH.tk 10 rfl (fun hq hC=>an Tryz.isAgg278 Tryz.sizeOf278 rfl rfl (by exact (At.au mB).ext hC n4)) rfl rfl rfl ?_
   refine WH.tk 11 rfl (fun hq hC=>ad rfl Tryz.underlying273 rfl Tryz.sizeOf40) rfl rfl rfl ?_
   refine WH.tk 12 rfl (fun hq hC=>aA Tryz.isAgg40 rfl (by first | exact hC.cell (by first | exact aa nH rfl | assumption) (by first | exact n1 | exact n2 | exact n3))) rfl rfl rfl ?_
   refine WH.one 13 (by kernel_rfl) ?_
   refine aE.call (vs:=[_,_,_]) rfl rfl Tryz.call217 rfl (ke _ _ k8.se.eb hco _ _ Ay) rfl rfl rfl ?_ (fun _=>by kernel_rfl)
   rintro uR h9 ⟨LL,rL,pL,fL,bQ,cg⟩
   rw [htp] at pL bQ
   obtain ⟨k9,t9⟩:=k8.Av cg bQ (by unfold dc;split <;> (try split) <;> (try split) <;> dsimp only <;> omega)
   have T9:=(Tn.no (A:=A) (P:=P) X8).trans t9
   refine ⟨fun _=>cg.mono fun _ _ e=>.inl e,?_⟩
   refine WH.one 14 (by kernel_rfl) ?_
   refine aE.call (vs:=[_,_,_]) rfl rfl Tryz.call216 rfl (EJ k9 hi LL hran rL) rfl rfl rfl ?_ (fun _=>by kernel_rfl)
   rintro _ iD ⟨rfl,LP,i10,o5,Kw,Iy,Dg,t10,cG⟩
   have Dh:=T9.trans t10
   have hbx:=(t9.trans t10).1.obj gh (k8.not gh (by decide) (by decide) (by decide))
   have Kx:i10.d.ran=true:=congrArg (·.2.2.2.2.1) Dg
   have iY:i10.d.over=i.d.over:=congrArg (·.2.2.2.2.2) Dg
   have Az:i10.d.rs.map Rw.pl=LL.map Rw.pl:=congrArg (·.2.2.2.1) Dg
   have htt:(i10.d.text,i10.d.oids,i10.d.ps.map aX.pl)=(i.d.text,i.d.oids,i.d.ps.map aX.pl):=congrArg (fun q=>(q.1,q.2.1,q.2.2.1)) Dg
   have EL:=(o5.pok _ (ca Iy)).1
   have m1:¬ A.bs=i10.p:=bA o5.se.bq EL (by decide)
   have m2:¬ b3=i10.p:=bA hbx EL (by decide)
   refine ⟨fun _=>(cg.mono fun _ _ e=>.inl e).trans (cG.mono fun _ _ e=>.inr e),?_⟩
   refine WH.done (by kernel_rfl) ?_
   refine Gn ?_;refine WC.seq ?_;refine WC.bW (fun h'=>Ext (fun q=>q=i10.p) iD h') 14 14 rfl dk ?_
   refine WH.tk 0 rfl (fun hq hC=>ak rfl) rfl rfl rfl ?_
   refine WH.tk 1 rfl (fun hq hC=>ae rfl) rfl rfl rfl ?_
   refine WH.tk 2 rfl (fun hq hC=>ad rfl Tryz.underlying153 rfl Tryz.sizeOf150) rfl rfl rfl ?_
   refine WH.tk 3 rfl (fun hq hC=>aA Tryz.isAgg150 rfl (by first | exact hC.cell (by first | exact aa o5.se.bq rfl | assumption) (by first | exact m1 | exact m2))) rfl rfl rfl ?_
   refine WH.tk 4 rfl (fun hq hC=>ad rfl Tryz.underlying42 rfl Tryz.sizeOf9) rfl rfl rfl ?_
   refine WH.tk 5 rfl (fun hq hC=>aA Tryz.isAgg9 rfl (by first | exact hC.cell (by first | exact aa hbx rfl | assumption) (by first | exact m1 | exact m2))) rfl rfl rfl ?_
   refine WH.tk 6 rfl (fun hq hC=>ad rfl Tryz.underlying42 rfl Tryz.sizeOf3) rfl rfl rfl ?_
   refine WH.tk 7 rfl (fun hq hC=>aA Tryz.isAgg3 rfl (by first | exact hC.cell (by first | exact aa hbx rfl | assumption) (by first | exact m1 | exact m2))) rfl rfl rfl ?_
   refine WH.one 8 (by kernel_rfl) ?_
   refine aE.call (vs:=[_,_,_]) rfl rfl Tryz.call219 rfl (vQ o5 Iy mx Kx) rfl rfl rfl ?_ (fun _=>by kernel_rfl)
   rintro _ x8 ⟨v11,Ky,Nk,rfl,Kz,EN,AA,Gj,t11,dA⟩
   rw [Az,pL,iY] at EN
   have hlim:=Aw EN (su _ _ (gX _ _ htl.2.2.1))
   refine ⟨fun _=>dA,?_⟩
   refine WH.tk 9 rfl (fun hq hC=>bU rfl rfl) rfl rfl rfl ?_
   refine WH.tk 10 rfl (fun hq hC=>bU rfl rfl) rfl rfl rfl ?_
   refine WH.one 11 (by kernel_rfl) ?_
   refine aE.call (vs:=[_,_]) rfl rfl Tryz.call218 rfl (qj Ky Kz _ hlim.1 hlim.2) rfl rfl rfl ?_ (fun _=>by kernel_rfl)
   rintro v12 tQ ⟨B,Hv,pB,fO⟩
   refine ⟨fun _=>dA.trans (fO.mono fun _ _ e=>e.elim),?_⟩
   have KA:=dA.trans (fO.mono (S':=fun q=>q=i10.p) fun _ _ e=>e.elim)
   refine WH.tk 12 rfl (fun hq hC=>aR rfl) rfl rfl rfl ?_
   refine WH.tk 13 rfl (fun hq hC=>aR rfl) rfl rfl rfl ?_
   refine WH.done (by kernel_rfl) ?_
   refine Gn ?_;refine Gs [(4,_),(5,_)] ?_;refine Gt ?_
   refine o0 AA (Dh.trans t11) Hv fO (by rw [pB,EN,Az,pL,iY]) rfl rfl rfl rfl rfl rfl ?_
   rw [Gj,Kw,Az,pL,iY]
   simp only [Prod.mk.injEq] at htt
   rw [htt.1,htt.2.1,htt.2.2,xz]
 · rw [if_pos rfl]
   refine calls [(0,_),(1,_)] Tryz.func149 rfl Tryz.ntmps149 rfl ⟨rfl,rfl,trivial⟩ ?_
   refine WC.sr ?_;refine WL.ai (aB rfl) rfl rfl rfl ?_
   rintro _ h1 ⟨b3,rfl,bO,aQ,ay⟩
   refine Go ?_;refine G2 ?_;refine WL.ld rfl (by first | exact aa aQ rfl | assumption) rfl rfl rfl ?_
   refine WL.call (vs:=[_,_]) rfl Tryz.call213 rfl (eT (k.aq ay) lm p nX) rfl rfl rfl ?_
   rintro _ h2 ⟨⟨d2,rfl,iN,f2,hq'⟩,aH⟩
   rw [he] at hq' ⊢
   dsimp only [fY]
   refine Go ?_;refine WL.ai (av (fun w=>Tryz.zeroValue273 w)) rfl rfl rfl ?_
   rintro _ h3 ⟨b6,rfl,gb,bn,aP⟩
   refine WL.az (al Tryz.sizeOf273 rfl rfl rfl bn rfl (fg iN)) rfl rfl ?_
   rintro _ h4 ⟨bx,aW⟩
   have iH:Ext No h1 h4:=aH.trans (aP.trans' aW (fun q hq e=>by omega))
   have X4:=ay.trans iH
   have bP:=iH.obj aQ aO
   obtain ⟨i',hi',kP⟩:=hq' rfl
   have hii:=Option.some.inj (hi.symm.trans hi')
   subst hii
   have ln:=iN.ext (aP.trans' (S:=No) aW (fun q hq e=>by omega)) (fun _ _=>aO)
   have hti:d2.text=i.d.text:=congrArg (·.1) kP
   have htp:d2.ps.map aX.pl=i.d.ps.map aX.pl:=congrArg (·.2.2.1) kP
   have htr:d2.ran=i.d.ran:=congrArg (·.2.2.2.2.1) kP
   obtain ⟨text,vo,oids,Hu,JD,vr,JE,De,vR⟩:=d2
   dsimp only at hti htp htr
   subst hti
   subst htr
   dsimp only [PD.cells] at bx
   obtain ⟨A6,c6,hvo,_⟩:=id ln.oids
   have okp:=ln.ps
   obtain ⟨_,⟨_,A7,c7,hvp,_⟩,_⟩:=id ln.ps
   obtain ⟨_,⟨_,A8,c8,hvr,_⟩,_⟩:=id ln.rs
   dsimp only at hvo hvp hvr okp
   subst hvo
   subst hvp
   subst hvr
   refine Go ?_;refine Gs [(0,_),(3,_),(6,_),(7,_)] ?_;refine G3 ?_;refine WL.step (cR (by kernel_rfl) rfl rfl) rfl rfl rfl ?_
   refine Gn ?_
   refine aJ 1 2 ?_ TT.mk
   all_goals (refine ax 2 ?_)
   refine WC.skip ?_;refine Gn ?_;refine G2 ?_;refine WL.ld rfl (by first | exact aa bx rfl | assumption) rfl rfl rfl ?_
   refine WL.call (vs:=[_]) rfl Tryz.call214 rfl (kp _) rfl rfl rfl ?_
   rintro _ h5 ⟨rfl,aN⟩
   refine WL.ai (av (fun w=>Tryz.zeroValue278 w)) rfl rfl rfl ?_
   rintro _ h6 ⟨b8,rfl,oG,bN,aM⟩
   refine WL.az (al Tryz.sizeOf278 rfl rfl rfl bN rfl (by simp [Value.oneCell'])) rfl rfl ?_
   rintro _ h7 ⟨bZ,bh⟩
   have Df:Ext No h4 h7:=aN.trans (aM.trans' bh (fun q hq e=>by omega))
   refine Gn ?_;refine Gs [(0,_),(3,_),(6,_),(8,_)] ?_;refine WC.seq ?_;refine WC.sr ?_;refine WL.step (an Tryz.isAgg278 Tryz.sizeOf278 rfl rfl (by exact At.au bZ)) rfl rfl rfl ?_
   refine WL.call (vs:=[_]) rfl Tryz.call215 rfl (kr _) rfl rfl rfl ?_
   rintro _ h8 ⟨rfl,bD⟩
   have j6:=Df.trans bD
   have X8:=X4.trans j6
   have nH:=j6.obj bx aO
   have mB:=bD.obj bZ aO
   have gh:=j6.obj bP aO
   have Ay:=okp.aq j6
   have k8:=k.aq X8
   refine Gn ?_
   refine aJ 3 4 ?_ TT.mk
   all_goals (refine ax 3 ?_)
   refine G3 ?_;refine WL.ld rfl (by first | exact aa nH rfl | assumption) rfl rfl rfl ?_
   rw [hran]
   have xA:=(k8.pok _ (ca hi)).1
   have m1:¬ A.bs=i.p:=bA k8.se.bq xA (by decide)
   have m2:¬ b3=i.p:=bA gh xA (by decide)
   refine WL.step (cL rfl) rfl rfl rfl ?_;refine Gn ?_;refine Gs [(0,_),(3,_),(6,_),(8,_),(28,_)] ?_
   refine aJ 5 6 ?_ TT.mk
   all_goals (refine ax 6 ?_)
   refine WC.skip ?_;refine Gn ?_;refine WC.seq ?_;refine WC.bW (fun h'=>Ext (fun q=>q=i.p) h8 h') 14 14 rfl dk ?_
   refine WH.tk 0 rfl (fun hq hC=>ak rfl) rfl rfl rfl ?_
   refine WH.tk 1 rfl (fun hq hC=>ae rfl) rfl rfl rfl ?_
   refine WH.tk 2 rfl (fun hq hC=>ad rfl Tryz.underlying153 rfl Tryz.sizeOf150) rfl rfl rfl ?_
   refine WH.tk 3 rfl (fun hq hC=>aA Tryz.isAgg150 rfl (by first | exact hC.cell (by first | exact aa k8.se.bq rfl | assumption) (by first | exact m1 | exact m2))) rfl rfl rfl ?_
   refine WH.tk 4 rfl (fun hq hC=>ad rfl Tryz.underlying42 rfl Tryz.sizeOf9) rfl rfl rfl ?_
   refine WH.tk 5 rfl (fun hq hC=>aA Tryz.isAgg9 rfl (by first | exact hC.cell (by first | exact aa gh rfl | assumption) (by first | exact m1 | exact m2))) rfl rfl rfl ?_
   refine WH.tk 6 rfl (fun hq hC=>ad rfl Tryz.underlying42 rfl Tryz.sizeOf3) rfl rfl rfl ?_
   refine WH.tk 7 rfl (fun hq hC=>aA Tryz.isAgg3 rfl (by first | exact hC.cell (by first | exact aa gh rfl | assumption) (by first | exact m1 | exact m2))) rfl rfl rfl ?_
   refine WH.one 8 (by kernel_rfl) ?_
   refine aE.call (vs:=[_,_,_]) rfl rfl Tryz.call219 rfl (vQ k8 hi mx hran) rfl rfl rfl ?_ (fun _=>by kernel_rfl)
   rintro _ x8 ⟨v11,Ky,Nk,rfl,Kz,EN,AA,Gj,t11,dA⟩
   have hlim:=Aw EN (su _ _ ⟨htl.2.2.2.1,htl.2.2.2.2⟩)
   refine ⟨fun _=>dA,?_⟩
   refine WH.tk 9 rfl (fun hq hC=>bU rfl rfl) rfl rfl rfl ?_
   refine WH.tk 10 rfl (fun hq hC=>bU rfl rfl) rfl rfl rfl ?_
   refine WH.one 11 (by kernel_rfl) ?_
   refine aE.call (vs:=[_,_]) rfl rfl Tryz.call218 rfl (qj Ky Kz _ hlim.1 hlim.2) rfl rfl rfl ?_ (fun _=>by kernel_rfl)
   rintro v12 tQ ⟨B,Hv,pB,fO⟩
   refine ⟨fun _=>dA.trans (fO.mono fun _ _ e=>e.elim),?_⟩
   have KA:=dA.trans (fO.mono (S':=fun q=>q=i.p) fun _ _ e=>e.elim)
   refine WH.tk 12 rfl (fun hq hC=>aR rfl) rfl rfl rfl ?_
   refine WH.tk 13 rfl (fun hq hC=>aR rfl) rfl rfl rfl ?_
   refine WH.done (by kernel_rfl) ?_
   refine Gn ?_;refine Gs [(4,_),(5,_)] ?_;refine Gt ?_
   refine o0 AA ((Tn.no X8).trans t11) Hv fO (by rw [pB,EN]) rfl rfl rfl rfl rfl rfl ?_
   rw [Gj]
end
section
variable {h h':ah} {A:Ad} {st:Int} {sk ov:Bool} {cnt:Int} {L:List (List UInt8 × gR)} {P:List (List UInt8 × ez)}
theorem AB {b m:Nat} {es:List (List UInt8 × Value)} {v:Value} (name:List UInt8) (hb:h[b]?=some (.cells ⟨[.map (some m)]⟩ 189 (0,0))) (hm:Mp .string St h m es) (hv:cY es name=none) :
   ag Tryz.prog 216 ⟨[.pointer (some ⟨b,0,none⟩),St name,v]⟩ h fun u h'=>u=.bool false∧h'=h:=by
 refine calls [(0,_),(1,_),(2,_)] Tryz.func216 rfl Tryz.ntmps216 rfl ⟨rfl,rfl,rfl,trivial⟩ ?_
 refine G2 ?_;refine G2 ?_;refine WL.call (vs:=[_,_]) rfl Tryz.call256 rfl (p4 name hb hm hv) rfl rfl rfl ?_
 rintro _ hz ⟨rfl,_⟩
 subst hz
 refine Go ?_;refine Gs [(2,_),(7,_),(8,_)] ?_;refine G3 ?_
 refine bG 17 ?_ TT.mk
 refine Gg ?_;refine WL.pass rfl rfl rfl ?_;refine Gg ?_;refine WL.pass rfl rfl rfl (Go ?_);refine Gs [(2,_),(7,_),(22,_)] ?_
 refine aJ 1 2 ?_ TT.mk
 all_goals (refine ax 1 ?_)
 refine G2 ?_;refine Gt ?_
 exact ⟨rfl,rfl⟩
def Di (P:List (List UInt8 × F5)) (n:List UInt8):List (List UInt8 × F5):=match bJ P n with
 | some (t,o,ps,_,ran,ov)=>if ran=true then P else cx P n (t,o,ps,[],true,ov)
 | none=>P
theorem Dj (k:Ss h A st sk ov cnt L P) (n:List UInt8):ag Tryz.prog 216 ⟨[.pointer (some ⟨A.bp,0,none⟩),St n,nS]⟩ h fun _ h'=>∃ P',Ss h' A st sk ov cnt L P'∧fZ P'=Di (fZ P) n∧Tn A P h h' P'∧Ext (fun q=>∃ cs,h[q]?=some (.cells cs 273 (0,0))) h h':=by
 unfold Di
 rw [gy]
 rcases hg:bJ P n with _ | i
 · refine (AB n k.se.pb k.se.pm (by rw [cS,hg];rfl)).mono fun u h' ⟨_,e⟩=>?_
   subst e
   exact ⟨P,k,rfl,Tn.no (.refl _ _),.refl _ _⟩
 · rcases hr:i.d.ran
   · refine (EJ k hg [] hr ⟨Rd.nil _ _,⟨by simp,_,_,rfl,by simp [maxLen]⟩,by simp⟩).mono fun u h' ⟨_,P',i',k',e,_,_,t,x⟩=>?_
     exact ⟨P',k',by rw [e];simp only [Option.map_some,PD.pl,hr];rfl,t,x.mono fun q _ e=>⟨_,e▸(k.pok _ (ca hg)).1⟩⟩
   · refine (CO (k.pe hg) hr).mono fun u h' ⟨_,e⟩=>?_
     subst e
     exact ⟨P,k,by simp only [Option.map_some,PD.pl,hr,if_true],Tn.no (.refl _ _),.refl _ _⟩
theorem uz {s s1:SP} {v:gi} {out:List iw} (e:cK s v=(s1,out,none)):s1.P=(if cz v=true then [] else s.P)∧∀ x∈out,x.oids=[]∧x.cols=[]∧x.row=[]∧x.fields=[]:=by
 unfold cK at e
 by_cases e1:v.k=1
 · rw [if_pos e1] at e
   simp only [Prod.mk.injEq] at e
   obtain ⟨rfl,rfl,_⟩:=e
   exact ⟨by rw [if_neg (by simp [cz,e1])],by simp⟩
 · by_cases e2:v.k=8
   · rw [if_neg e1,if_pos e2] at e
     simp at e
   · rw [if_neg e1,if_neg e2] at e
     simp only [Prod.mk.injEq] at e
     obtain ⟨rfl,rfl,_⟩:=e
     exact ⟨rfl,by simp⟩
theorem Gk {B:List Bk} {out:List iw} (e:B.map Bk.p=out) (h:∀ x∈out,x.oids=[]∧x.cols=[]∧x.row=[]∧x.fields=[]):∀ b∈B,∀ q,¬ b.F q:=fun b hb q=>by
 obtain ⟨h1,h2,h3,h4⟩:=h b.p (e▸List.mem_map.2 ⟨b,hb,rfl⟩)
 exact Bk.Ng h1 h2 (List.map_eq_nil_iff.1 h3) h4 q
theorem uA (k:Ss h A st sk ov cnt L P) (lm:jB (cw st sk ov cnt L P)) (f:Fm) (hf:f.ok h) (fl:gW f) {i:ez} (he:gU (cw st sk ov cnt L P) f.portal=none) (hi:bJ P f.portal=some i) (hr:gx (bj i.d.text)=false) :
   ag Tryz.prog 149 ⟨[.pointer (some ⟨A.bs,0,none⟩),.agg ⟨f.cells⟩]⟩ h (ct h A P (ck (cw st sk ov cnt L P) f.p)):=by
 have hgl:bJ (cw st sk ov cnt L P).P f.portal=some i.d.pl:=by show bJ (fZ P) f.portal=_;rw [gy,hi];rfl
 have htl:=lm.tp _ (ca hi)
 obtain ⟨⟨e1,_⟩,⟨e2,_⟩,⟨e3,_⟩,e4,_⟩:=hf
 obtain ⟨oX,nX,xy,j5,Ak,_⟩:=fl
 obtain ⟨fk,w,n,p,t,vo,o,vf,fs,vs,rs,vp,ps,mx⟩:=f
 dsimp only at e1 e2 e3 e4 oX nX xy j5 Ak he hi hgl htl
 obtain ⟨A1,c1,rfl,_⟩:=e1
 obtain ⟨_,_,rfl,_⟩:=e2
 obtain ⟨_,_,rfl,_⟩:=e3
 obtain ⟨A4,c4,rfl,_⟩:=e4
 dsimp only [Fm.cells,Fm.p]
 have hpe : ck (cw st sk ov cnt L P) ⟨fk, w, n, p, t, o, ps.map aX.pl, mx⟩ = if i.d.ran = true ∧ (bj i.d.text).k ≠ 1 then (cw st sk ov cnt L P, [], some (([53, 53, 48, 48, 48] : List UInt8), ([112, 111, 114, 116, 97, 108, 32, 99, 97, 110, 110, 111, 116, 32, 98, 101, 32, 114, 117, 110] : List UInt8)))
     else match cK (cw st sk ov cnt L P) (bj i.d.text) with
       | (s1,out,none)=>({ s1 with P:=if cz (bj i.d.text)=true∨i.d.ran=true then s1.P else cx s1.P p (i.d.text,i.d.oids,i.d.ps.map aX.pl,[],true,i.d.over) },out,none)
       | r=>r:=by
   unfold ck
   dsimp only
   rw [he,hgl]
   unfold PD.pl
   dsimp only
   rw [if_neg (by rw [hr];decide)]
   rfl
 rw [hpe]
 clear hpe
 have kp:=fun h'=>oK (h:=h') i.d.text (by omega)
 have kr:=fun h'=>kS (h:=h') (bj i.d.text)
 have kt:=fun (g:ah) (k:Ss g A st sk ov cnt L P)=>(Aq k (bj i.d.text)).mono fun _ _ d=>d.LK
 rw [hr] at kr
 by_cases hc:i.d.ran=true∧(bj i.d.text).k ≠ 1
 · rw [if_pos hc]
   obtain ⟨hran,LQ⟩:=hc
   unfold gi.cells my at kp kr kt
   refine calls [(0,_),(1,_)] Tryz.func149 rfl Tryz.ntmps149 rfl ⟨rfl,rfl,trivial⟩ ?_
   refine WC.sr ?_;refine WL.ai (aB rfl) rfl rfl rfl ?_
   rintro _ h1 ⟨b3,rfl,bO,aQ,ay⟩
   refine Go ?_;refine G2 ?_;refine WL.ld rfl (by first | exact aa aQ rfl | assumption) rfl rfl rfl ?_
   refine WL.call (vs:=[_,_]) rfl Tryz.call213 rfl (eT (k.aq ay) lm p nX) rfl rfl rfl ?_
   rintro _ h2 ⟨⟨d2,rfl,iN,f2,hq'⟩,aH⟩
   rw [he] at hq' ⊢
   dsimp only [fY]
   refine Go ?_;refine WL.ai (av (fun w=>Tryz.zeroValue273 w)) rfl rfl rfl ?_
   rintro _ h3 ⟨b6,rfl,gb,bn,aP⟩
   refine WL.az (al Tryz.sizeOf273 rfl rfl rfl bn rfl (fg iN)) rfl rfl ?_
   rintro _ h4 ⟨bx,aW⟩
   have iH:Ext No h1 h4:=aH.trans (aP.trans' aW (fun q hq e=>by omega))
   have X4:=ay.trans iH
   have bP:=iH.obj aQ aO
   obtain ⟨i',hi',kP⟩:=hq' rfl
   have hii:=Option.some.inj (hi.symm.trans hi')
   subst hii
   have ln:=iN.ext (aP.trans' (S:=No) aW (fun q hq e=>by omega)) (fun _ _=>aO)
   have hti:d2.text=i.d.text:=congrArg (·.1) kP
   have htp:d2.ps.map aX.pl=i.d.ps.map aX.pl:=congrArg (·.2.2.1) kP
   have htr:d2.ran=i.d.ran:=congrArg (·.2.2.2.2.1) kP
   obtain ⟨text,vo,oids,Hu,JD,vr,JE,De,vR⟩:=d2
   dsimp only at hti htp htr
   subst hti
   subst htr
   dsimp only [PD.cells] at bx
   obtain ⟨A6,c6,hvo,_⟩:=id ln.oids
   have okp:=ln.ps
   obtain ⟨_,⟨_,A7,c7,hvp,_⟩,_⟩:=id ln.ps
   obtain ⟨_,⟨_,A8,c8,hvr,_⟩,_⟩:=id ln.rs
   dsimp only at hvo hvp hvr okp
   subst hvo
   subst hvp
   subst hvr
   refine Go ?_;refine Gs [(0,_),(3,_),(6,_),(7,_)] ?_;refine G3 ?_;refine WL.step (cR (by kernel_rfl) rfl rfl) rfl rfl rfl ?_
   refine Gn ?_
   refine aJ 1 2 ?_ TT.mk
   all_goals (refine ax 2 ?_)
   refine WC.skip ?_;refine Gn ?_;refine G2 ?_;refine WL.ld rfl (by first | exact aa bx rfl | assumption) rfl rfl rfl ?_
   refine WL.call (vs:=[_]) rfl Tryz.call214 rfl (kp _) rfl rfl rfl ?_
   rintro _ h5 ⟨rfl,aN⟩
   refine WL.ai (av (fun w=>Tryz.zeroValue278 w)) rfl rfl rfl ?_
   rintro _ h6 ⟨b8,rfl,oG,bN,aM⟩
   refine WL.az (al Tryz.sizeOf278 rfl rfl rfl bN rfl (by simp [Value.oneCell'])) rfl rfl ?_
   rintro _ h7 ⟨bZ,bh⟩
   have Df:Ext No h4 h7:=aN.trans (aM.trans' bh (fun q hq e=>by omega))
   refine Gn ?_;refine Gs [(0,_),(3,_),(6,_),(8,_)] ?_;refine WC.seq ?_;refine WC.sr ?_;refine WL.step (an Tryz.isAgg278 Tryz.sizeOf278 rfl rfl (by exact At.au bZ)) rfl rfl rfl ?_
   refine WL.call (vs:=[_]) rfl Tryz.call215 rfl (kr _) rfl rfl rfl ?_
   rintro _ h8 ⟨rfl,bD⟩
   have j6:=Df.trans bD
   have X8:=X4.trans j6
   have nH:=j6.obj bx aO
   have mB:=bD.obj bZ aO
   have gh:=j6.obj bP aO
   have Ay:=okp.aq j6
   have k8:=k.aq X8
   refine Gn ?_
   refine aJ 3 4 ?_ TT.mk
   all_goals (refine ax 4 ?_)
   refine WC.skip ?_;refine Gn ?_;refine G3 ?_;refine WL.ld rfl (by first | exact aa nH rfl | assumption) rfl rfl rfl ?_
   rw [hran]
   refine WL.step (ak rfl) rfl rfl rfl ?_
   refine bG 58 ?_ TT.mk
   refine Gg ?_;refine WL.ld rfl (by first | exact aa mB rfl | assumption) rfl rfl rfl ?_
   refine Gg ?_;refine Go ?_;refine Gs [(0,_),(3,_),(8,_),(62,_)] ?_
   refine aJ 7 8 ?_ TT.mk
   all_goals (refine ax 7 ?_)
   refine WC.sr ?_;refine WL.call (vs:=[_,_]) rfl Tryz.call204 rfl (iu _ _) rfl rfl rfl ?_
   rintro _ hq ⟨rfl,hz⟩
   replace hz:=hz.symm
   subst hz
   refine Go ?_;refine Gs [(4,_),(5,_)] ?_;refine Gt ?_
   exact ct.err rfl (.of k8 (Tn.no X8))
 · rw [if_neg hc]
   rcases hT:cK (cw st sk ov cnt L P) (bj i.d.text) with ⟨s1,out,_ | ⟨ea,ec⟩⟩
   · have hTn:=uz hT
     dsimp only
     rw [hT] at kt
     have hfin:Di s1.P p=if cz (bj i.d.text)=true∨i.d.ran=true then s1.P else cx s1.P p (i.d.text,i.d.oids,i.d.ps.map aX.pl,[],true,i.d.over):=by
       rw [hTn.1]
       unfold Di
       cases hex:cz (bj i.d.text)
       · rw [if_neg (by decide),show bJ (cw st sk ov cnt L P).P p=_ from hgl]
         cases hran:i.d.ran <;> simp [PD.pl,hran]
       · rw [if_pos rfl,if_pos (.inl rfl)]
         rfl
     rw [← hfin]
     unfold gi.cells my at kp kr kt
     rcases (show i.d.ran=true∧(bj i.d.text).k=1∨i.d.ran=false by
       cases h1:i.d.ran
       · exact .inr rfl
       · exact .inl ⟨rfl,Classical.not_not.1 fun e=>hc ⟨h1,e⟩⟩) with ⟨hran,LQ⟩ | hran
     all_goals
       refine calls [(0,_),(1,_)] Tryz.func149 rfl Tryz.ntmps149 rfl ⟨rfl,rfl,trivial⟩ ?_
       all_goals (refine WC.sr ?_;refine WL.ai (aB rfl) rfl rfl rfl ?_;rintro _ h1 ⟨b3,rfl,bO,aQ,ay⟩;refine Go ?_;refine G2 ?_;refine WL.ld rfl (by first | exact aa aQ rfl | assumption) rfl rfl rfl ?_)
       all_goals (
        refine WL.call (vs:=[_,_]) rfl Tryz.call213 rfl (eT (k.aq ay) lm p nX) rfl rfl rfl ?_
        rintro _ h2 ⟨⟨d2,rfl,iN,f2,hq'⟩,aH⟩
        rw [he] at hq' ⊢
        dsimp only [fY])
       all_goals (refine Go ?_;refine WL.ai (av (fun w=>Tryz.zeroValue273 w)) rfl rfl rfl ?_;rintro _ h3 ⟨b6,rfl,gb,bn,aP⟩;refine WL.az (al Tryz.sizeOf273 rfl rfl rfl bn rfl (fg iN)) rfl rfl ?_;rintro _ h4 ⟨bx,aW⟩)
       all_goals (
        have iH:Ext No h1 h4:=aH.trans (aP.trans' aW (fun q hq e=>by omega))
        have X4:=ay.trans iH
        have bP:=iH.obj aQ aO
        obtain ⟨i',hi',kP⟩:=hq' rfl
        have hii:=Option.some.inj (hi.symm.trans hi')
        subst hii
        have ln:=iN.ext (aP.trans' (S:=No) aW (fun q hq e=>by omega)) (fun _ _=>aO)
        have hti:d2.text=i.d.text:=congrArg (·.1) kP
        have htp:d2.ps.map aX.pl=i.d.ps.map aX.pl:=congrArg (·.2.2.1) kP
        have htr:d2.ran=i.d.ran:=congrArg (·.2.2.2.2.1) kP
        obtain ⟨text,vo,oids,Hu,JD,vr,JE,De,vR⟩:=d2
        dsimp only at hti htp htr
        subst hti
        subst htr
        dsimp only [PD.cells] at bx
        obtain ⟨A6,c6,hvo,_⟩:=id ln.oids
        have okp:=ln.ps
        obtain ⟨_,⟨_,A7,c7,hvp,_⟩,_⟩:=id ln.ps
        obtain ⟨_,⟨_,A8,c8,hvr,_⟩,_⟩:=id ln.rs
        dsimp only at hvo hvp hvr okp
        subst hvo
        subst hvp
        subst hvr)
       all_goals (refine Go ?_;refine Gs [(0,_),(3,_),(6,_),(7,_)] ?_;refine G3 ?_;refine WL.step (cR (by kernel_rfl) rfl rfl) rfl rfl rfl ?_;refine Gn ?_;refine aJ 1 2 ?_ TT.mk;refine ax 2 ?_;refine WC.skip ?_;refine Gn ?_;refine G2 ?_;refine WL.ld rfl (by first | exact aa bx rfl | assumption) rfl rfl rfl ?_;refine WL.call (vs:=[_]) rfl Tryz.call214 rfl (kp _) rfl rfl rfl ?_;rintro _ h5 ⟨rfl,aN⟩;refine WL.ai (av (fun w=>Tryz.zeroValue278 w)) rfl rfl rfl ?_;rintro _ h6 ⟨b8,rfl,oG,bN,aM⟩;refine WL.az (al Tryz.sizeOf278 rfl rfl rfl bN rfl (by simp [Value.oneCell'])) rfl rfl ?_;rintro _ h7 ⟨bZ,bh⟩;have Df:Ext No h4 h7:=aN.trans (aM.trans' bh (fun q hq e=>by omega));refine Gn ?_;refine Gs [(0,_),(3,_),(6,_),(8,_)] ?_;refine WC.seq ?_;refine WC.sr ?_;refine WL.step (an Tryz.isAgg278 Tryz.sizeOf278 rfl rfl (by exact At.au bZ)) rfl rfl rfl ?_;refine WL.call (vs:=[_]) rfl Tryz.call215 rfl (kr _) rfl rfl rfl ?_;rintro _ h8 ⟨rfl,bD⟩;have j6:=Df.trans bD;have X8:=X4.trans j6;have nH:=j6.obj bx aO;have mB:=bD.obj bZ aO;have gh:=j6.obj bP aO;have Ay:=okp.aq j6;have k8:=k.aq X8;refine Gn ?_;refine aJ 3 4 ?_ TT.mk;refine ax 4 ?_;refine WC.skip ?_;refine Gn ?_;refine G3 ?_;refine WL.ld rfl (by first | exact aa nH rfl | assumption) rfl rfl rfl ?_;rw [hran])
       all_goals (refine WL.step (ak rfl) rfl rfl rfl ?_;refine bG 58 ?_ TT.mk;refine Gg ?_;first | refine WL.pass rfl rfl rfl ?_ | (refine WL.ld rfl (by first | exact aa mB rfl | assumption) rfl rfl rfl ?_))
       all_goals (refine Gg ?_;refine Go ?_;refine Gs [(0,_),(3,_),(8,_),(62,_)] ?_;refine aJ 7 8 ?_ TT.mk;refine ax 8 ?_;refine WC.skip ?_;refine Gn ?_;refine G2 ?_;refine WL.step (an Tryz.isAgg278 Tryz.sizeOf278 rfl rfl (by exact At.au mB)) rfl rfl rfl ?_)
       all_goals (
        refine WL.call (vs:=[_,_]) rfl Tryz.call220 rfl (kt _ k8) rfl rfl rfl ?_
        rintro _ h9 ⟨v9,B9,c9,rfl,O9,Hw,L9,P9,k9,KB,Gl,t9⟩
        dsimp only [fY] at Hw ⊢
        have T9:=(Tn.no (A:=A) (P:=P) X8).trans t9
        have Gm:=t9.1.obj gh (k8.not gh (by decide) (by decide) (by decide)))
       all_goals (refine Go ?_;refine Gs [(0,_),(3,_),(7,_),(9,_)] ?_;refine G3 ?_;refine WL.step (rX (by kernel_rfl) rfl rfl) rfl rfl rfl ?_;refine Gn ?_;refine aJ 9 10 ?_ TT.mk;refine ax 9 ?_;refine WC.kD 6 dk (by kernel_rfl) ?_;show WS _ _ _ [_,_,_,_,_,_] _ _ _)
       all_goals (refine WS.step (ak rfl) rfl rfl rfl ?_;refine WS.step (ae rfl) rfl rfl rfl ?_;refine WS.step (ad rfl Tryz.underlying153 rfl Tryz.sizeOf150) rfl rfl rfl ?_;refine WS.step (aA Tryz.isAgg150 rfl (by first | exact aa k9.se.bq rfl | assumption)) rfl rfl rfl ?_;refine WS.step (ad rfl Tryz.underlying42 rfl Tryz.sizeOf9) rfl rfl rfl ?_;refine WS.step (aA Tryz.isAgg9 rfl (by first | exact aa Gm rfl | assumption)) rfl rfl rfl ?_;refine WS.nil ?_;show WL _ _ _ [_] _ _ _)
       all_goals (refine WL.call (vs:=[_,_,_]) rfl Tryz.call216 rfl (Dj k9 p) rfl rfl rfl ?_;rintro _ iD ⟨LP,o5,KC,t10,cG⟩;have xB:=O9.ext' cG (fun q hq ⟨cs,e⟩=>by obtain ⟨_,z⟩:=de O9.own hq;rw [e] at z;simp at z) (fun b hb q e=>absurd e (Gk Hw hTn.2 b hb q));refine WL.nil ?_;refine Gn ?_;refine Gs [(7,_),(9,_)] ?_;refine G2 ?_;refine Gs [(4,_),(5,_)] ?_;refine Gt ?_;exact ⟨v9,B9,c9,rfl,xB.mono X8.size,Hw,L9,LP,o5,KB,by rw [KC,Gl],T9.trans t10⟩)
   · dsimp only
     rw [hT] at kt
     unfold gi.cells my at kp kr kt
     rcases (show i.d.ran=true∧(bj i.d.text).k=1∨i.d.ran=false by
       cases h1:i.d.ran
       · exact .inr rfl
       · exact .inl ⟨rfl,Classical.not_not.1 fun e=>hc ⟨h1,e⟩⟩) with ⟨hran,LQ⟩ | hran
     all_goals
       refine calls [(0,_),(1,_)] Tryz.func149 rfl Tryz.ntmps149 rfl ⟨rfl,rfl,trivial⟩ ?_
       all_goals (refine WC.sr ?_;refine WL.ai (aB rfl) rfl rfl rfl ?_;rintro _ h1 ⟨b3,rfl,bO,aQ,ay⟩;refine Go ?_;refine G2 ?_;refine WL.ld rfl (by first | exact aa aQ rfl | assumption) rfl rfl rfl ?_)
       all_goals (
        refine WL.call (vs:=[_,_]) rfl Tryz.call213 rfl (eT (k.aq ay) lm p nX) rfl rfl rfl ?_
        rintro _ h2 ⟨⟨d2,rfl,iN,f2,hq'⟩,aH⟩
        rw [he] at hq' ⊢
        dsimp only [fY])
       all_goals (refine Go ?_;refine WL.ai (av (fun w=>Tryz.zeroValue273 w)) rfl rfl rfl ?_;rintro _ h3 ⟨b6,rfl,gb,bn,aP⟩;refine WL.az (al Tryz.sizeOf273 rfl rfl rfl bn rfl (fg iN)) rfl rfl ?_;rintro _ h4 ⟨bx,aW⟩)
       all_goals (
        have iH:Ext No h1 h4:=aH.trans (aP.trans' aW (fun q hq e=>by omega))
        have X4:=ay.trans iH
        have bP:=iH.obj aQ aO
        obtain ⟨i',hi',kP⟩:=hq' rfl
        have hii:=Option.some.inj (hi.symm.trans hi')
        subst hii
        have ln:=iN.ext (aP.trans' (S:=No) aW (fun q hq e=>by omega)) (fun _ _=>aO)
        have hti:d2.text=i.d.text:=congrArg (·.1) kP
        have htp:d2.ps.map aX.pl=i.d.ps.map aX.pl:=congrArg (·.2.2.1) kP
        have htr:d2.ran=i.d.ran:=congrArg (·.2.2.2.2.1) kP
        obtain ⟨text,vo,oids,Hu,JD,vr,JE,De,vR⟩:=d2
        dsimp only at hti htp htr
        subst hti
        subst htr
        dsimp only [PD.cells] at bx
        obtain ⟨A6,c6,hvo,_⟩:=id ln.oids
        have okp:=ln.ps
        obtain ⟨_,⟨_,A7,c7,hvp,_⟩,_⟩:=id ln.ps
        obtain ⟨_,⟨_,A8,c8,hvr,_⟩,_⟩:=id ln.rs
        dsimp only at hvo hvp hvr okp
        subst hvo
        subst hvp
        subst hvr)
       all_goals (refine Go ?_;refine Gs [(0,_),(3,_),(6,_),(7,_)] ?_;refine G3 ?_;refine WL.step (cR (by kernel_rfl) rfl rfl) rfl rfl rfl ?_;refine Gn ?_;refine aJ 1 2 ?_ TT.mk;refine ax 2 ?_;refine WC.skip ?_;refine Gn ?_;refine G2 ?_;refine WL.ld rfl (by first | exact aa bx rfl | assumption) rfl rfl rfl ?_;refine WL.call (vs:=[_]) rfl Tryz.call214 rfl (kp _) rfl rfl rfl ?_;rintro _ h5 ⟨rfl,aN⟩;refine WL.ai (av (fun w=>Tryz.zeroValue278 w)) rfl rfl rfl ?_;rintro _ h6 ⟨b8,rfl,oG,bN,aM⟩;refine WL.az (al Tryz.sizeOf278 rfl rfl rfl bN rfl (by simp [Value.oneCell'])) rfl rfl ?_;rintro _ h7 ⟨bZ,bh⟩;have Df:Ext No h4 h7:=aN.trans (aM.trans' bh (fun q hq e=>by omega));refine Gn ?_;refine Gs [(0,_),(3,_),(6,_),(8,_)] ?_;refine WC.seq ?_;refine WC.sr ?_;refine WL.step (an Tryz.isAgg278 Tryz.sizeOf278 rfl rfl (by exact At.au bZ)) rfl rfl rfl ?_;refine WL.call (vs:=[_]) rfl Tryz.call215 rfl (kr _) rfl rfl rfl ?_;rintro _ h8 ⟨rfl,bD⟩;have j6:=Df.trans bD;have X8:=X4.trans j6;have nH:=j6.obj bx aO;have mB:=bD.obj bZ aO;have gh:=j6.obj bP aO;have Ay:=okp.aq j6;have k8:=k.aq X8;refine Gn ?_;refine aJ 3 4 ?_ TT.mk;refine ax 4 ?_;refine WC.skip ?_;refine Gn ?_;refine G3 ?_;refine WL.ld rfl (by first | exact aa nH rfl | assumption) rfl rfl rfl ?_;rw [hran])
       all_goals (refine WL.step (ak rfl) rfl rfl rfl ?_;refine bG 58 ?_ TT.mk;refine Gg ?_;first | refine WL.pass rfl rfl rfl ?_ | (refine WL.ld rfl (by first | exact aa mB rfl | assumption) rfl rfl rfl ?_))
       all_goals (refine Gg ?_;refine Go ?_;refine Gs [(0,_),(3,_),(8,_),(62,_)] ?_;refine aJ 7 8 ?_ TT.mk;refine ax 8 ?_;refine WC.skip ?_;refine Gn ?_;refine G2 ?_;refine WL.step (an Tryz.isAgg278 Tryz.sizeOf278 rfl rfl (by exact At.au mB)) rfl rfl rfl ?_;refine WL.call (vs:=[_,_]) rfl Tryz.call220 rfl (kt _ k8) rfl rfl rfl ?_;rintro _ h9 ⟨v9,B9,c9,rfl,O9,Hw,L9,P9,k9,KB,Gl,t9⟩;dsimp only [fY] at Hw ⊢)
       all_goals (refine Go ?_;refine Gs [(0,_),(3,_),(7,_),(9,_)] ?_;refine G3 ?_;refine WL.step (zI (by kernel_rfl) rfl rfl) rfl rfl rfl ?_;refine Gn ?_;refine aJ 9 10 ?_ TT.mk;refine ax 10 ?_;refine WC.skip ?_;refine Gn ?_;refine Gs [(7,_),(9,_)] ?_;refine G2 ?_;refine Gs [(4,_),(5,_)] ?_;refine Gt ?_;exact ⟨v9,B9,c9,rfl,O9.mono X8.size,Hw,L9,P9,k9,KB,Gl,(Tn.no (A:=A) (P:=P) X8).trans t9⟩)
theorem xC (k:Ss h A st sk ov cnt L P) (lm:jB (cw st sk ov cnt L P)) (f:Fm) (hf:f.ok h) (fl:gW f) :
   ag Tryz.prog 149 ⟨[.pointer (some ⟨A.bs,0,none⟩),.agg ⟨f.cells⟩]⟩ h (ct h A P (ck (cw st sk ov cnt L P) f.p)):=by
 rcases he:gU (cw st sk ov cnt L P) f.portal with _ | ⟨ea,ec⟩
 · obtain ⟨i,hi⟩:=nG he
   cases hr:gx (bj i.d.text)
   · exact uA k lm f hf fl he hi hr
   · exact uy k lm f hf fl he hi hr
 · have hpe : ck (cw st sk ov cnt L P) f.p = (cw st sk ov cnt L P, [], some (ea, ec)) := by
     unfold ck
     rw [show gU (cw st sk ov cnt L P) f.p.portal=_ from he]
   rw [hpe]
   obtain ⟨⟨e1,_⟩,⟨e2,_⟩,⟨e3,_⟩,e4,_⟩:=hf
   obtain ⟨oX,nX,xy,j5,Ak,_⟩:=fl
   obtain ⟨fk,w,n,p,t,vo,o,vf,fs,vs,rs,vp,ps,mx⟩:=f
   dsimp only at e1 e2 e3 e4 oX nX xy j5 Ak he
   obtain ⟨A1,c1,rfl,_⟩:=e1
   obtain ⟨_,_,rfl,_⟩:=e2
   obtain ⟨_,_,rfl,_⟩:=e3
   obtain ⟨A4,c4,rfl,_⟩:=e4
   dsimp only [Fm.cells]
   refine calls [(0,_),(1,_)] Tryz.func149 rfl Tryz.ntmps149 rfl ⟨rfl,rfl,trivial⟩ ?_
   refine WC.sr ?_;refine WL.ai (aB rfl) rfl rfl rfl ?_
   rintro _ h1 ⟨b3,rfl,bO,aQ,ay⟩
   refine Go ?_;refine G2 ?_;refine WL.ld rfl (by first | exact aa aQ rfl | assumption) rfl rfl rfl ?_
   refine WL.call (vs:=[_,_]) rfl Tryz.call213 rfl (eT (k.aq ay) lm p nX) rfl rfl rfl ?_
   rintro _ h2 ⟨⟨d2,rfl,iN,f2,hq'⟩,aH⟩
   rw [he] at hq' ⊢
   dsimp only [fY]
   refine Go ?_;refine WL.ai (av (fun w=>Tryz.zeroValue273 w)) rfl rfl rfl ?_
   rintro _ h3 ⟨b6,rfl,gb,bn,aP⟩
   refine WL.az (al Tryz.sizeOf273 rfl rfl rfl bn rfl (fg iN)) rfl rfl ?_
   rintro _ h4 ⟨bx,aW⟩
   have X4:Ext No h h4:=(ay.trans aH).trans (aP.trans' aW (fun q hq e=>by omega))
   refine Go ?_;refine Gs [(0,_),(3,_),(6,_),(7,_)] ?_;refine G3 ?_;refine WL.step (fR (by kernel_rfl) rfl rfl) rfl rfl rfl ?_
   refine Gn ?_
   refine aJ 1 2 ?_ TT.mk
   all_goals (refine ax 1 ?_)
   refine G2 ?_;refine Gs [(4,_),(5,_)] ?_;refine Gt ?_
   exact ct.err rfl (.of (k.aq X4) (Tn.no X4))
end
section
variable {h h':ah} {A:Ad} {st:Int} {sk ov:Bool} {cnt:Int} {L:List (List UInt8 × gR)} {P:List (List UInt8 × ez)}
theorem ql (k:Ss h A st sk ov cnt L P) (n:List UInt8):ag Tryz.prog 221 ⟨[.pointer (some ⟨A.bp,0,none⟩),St n]⟩ h fun _ h'=>∃ P',(∀ q∈P',q∈P)∧Ss h' A st sk ov cnt L P'∧fZ P'=cj (fZ P) n∧Tn A P h h' P':=by
 rcases hg:bJ P n with _ | i
 · refine (zi n k.se.pb k.se.pm (by rw [cS,hg];rfl)).mono fun u h' ⟨_,e⟩=>?_
   subst e
   have hde:cj P n=P:=List.filter_eq_self.2 fun q hq=>by simpa using mP hg q hq
   exact ⟨P,fun _ h=>h,k,(congrArg fZ hde).symm.trans (mS _ _),Tn.no (.refl _ _)⟩
 · refine (Ey (k.pe hg)).mono fun u h' ⟨_,hm,hx⟩=>?_
   rw [eJ] at hm
   have kk:=k.cK hx hm (fun q hq=>(cC hq).1)
   exact ⟨_,fun q hq=>(cC hq).1,kk.1,mS _ _,kk.2⟩
theorem fi.trans {L1:List (List UInt8 × gR)} {P1:List (List UInt8 × ez)} {h1:ah} {r:gj} {u:Value} (t:Tn A P h h1 P1) (hL:∀ q∈L1,q∈L) (hP:∀ q∈P1,q∈P) (d:fi h1 A L1 P1 r u h'):fi h A L P r u h':=by
 obtain ⟨v,B,c,e,O,p,L2,P2,s1,s2,k,e1,e2,t2⟩:=d
 exact ⟨v,B,c,e,O.mono t.1.size,p,L2,P2,fun q hq=>hL q (s1 q hq),fun q hq=>hP q (s2 q hq),k,e1,e2,t.trans t2⟩
theorem vS (k:Ss h A st sk ov cnt L P) (lm:jB (cw st sk ov cnt L P)) (f:Fm) (hf:f.ok h) (fl:gW f):ag Tryz.prog 151 ⟨[.pointer (some ⟨A.bs,0,none⟩),.agg ⟨f.cells⟩]⟩ h (fi h A L P (dz (cw st sk ov cnt L P) f.p)):=by
 have hcl:cnt < 1000000:=lm.c
 have hco:=k.cok
 obtain ⟨⟨e1,_⟩,⟨e2,_⟩,⟨e3,_⟩,e4,_⟩:=hf
 obtain ⟨oX,nX,xy,j5,Ak,_⟩:=fl
 obtain ⟨fk,w,n,p,t,vo,o,vf,fs,vs,rs,vp,ps,mx⟩:=f
 dsimp only at e1 e2 e3 e4 oX nX xy j5 Ak
 obtain ⟨A1,c1,rfl,_⟩:=e1
 obtain ⟨_,_,rfl,_⟩:=e2
 obtain ⟨_,_,rfl,_⟩:=e3
 obtain ⟨A4,c4,rfl,_⟩:=e4
 dsimp only [Fm.cells,Fm.p]
 have hpe : dz (cw st sk ov cnt L P) ⟨fk, w, n, p, t, o, ps.map aX.pl, mx⟩ = match jY t st with
     | some e=>(⟨st,sk,ov,cnt,cj (qh L) [],cj (fZ P) []⟩,[],some e)
     | none=>if gx (bj t)=true then (⟨st,sk,ov,(dc (bj t) [] cnt).2,cj (qh L) [],cj (fZ P) []⟩,oW (oo (bj t) 0) :: cU (dc (bj t) [] cnt).1 false,none)
       else cK ⟨st,sk,ov,cnt,cj (qh L) [],cj (fZ P) []⟩ (bj t):=rfl
 rw [hpe]
 clear hpe
 have kp:=fun h'=>oK (h:=h') t (by omega)
 have kr:=fun h'=>kS (h:=h') (bj t)
 have kc:=fun h'=>oN (h:=h') (bj t) 0
 have kt:=fun (g:ah) (L:List (List UInt8 × gR)) (P:List (List UInt8 × ez)) (k:Ss g A st sk ov cnt L P)=>Aq k (bj t)
 have ke:=fun (g:ah) (cn:Int) (hb:g[A.be]?=some (.cells ⟨[.map (some A.me),In cn]⟩ 104 (0,0))) (hc:0≤cn∧cn≤1000000)=>sq hb hc (bj t) (vp:=nS) [] ⟨Rd.nil _ _,⟨by simp,_,_,rfl,by simp [maxLen]⟩,by simp⟩
 have kre:=fun (g:ah) (L:List (List UInt8 × gR)) (P:List (List UInt8 × ez)) (k:Ss g A st sk ov cnt L P)=>ju k t (by omega)
 unfold gi.cells my at kp kr kc kt ke
 simp only [List.map_nil] at ke
 rcases hr:jY t st with _ | ⟨ra,rb⟩
 · rw [hr] at kre
   dsimp only
   cases hw:gx (bj t)
   · rw [hw] at kr
     rw [if_neg (by decide)]
     refine calls [(0,_),(1,_)] Tryz.func151 rfl Tryz.ntmps151 rfl ⟨rfl,rfl,trivial⟩ ?_
     refine WC.sr ?_;refine WL.ai (aB rfl) rfl rfl rfl ?_
     rintro _ h1 ⟨b3,rfl,bO,aQ,ay⟩
     have k1:=k.aq ay
     refine Go ?_;refine G2 ?_;refine WL.step (ae rfl) rfl rfl rfl (Go ?_);refine WL.ld rfl (by first | exact aa k1.se.bq rfl | assumption) rfl rfl rfl ?_
     refine WL.az (fD rfl fJ Tryz.underlying149 Tryz.underlying9 rfl rfl k1.se.stm) rfl rfl ?_
     rintro _ h2 ⟨oY,aH⟩
     rw [eJ] at oY
     obtain ⟨k2,t2⟩:=k1.nA aH oY (fun q hq=>.inl (cC hq).1)
     have bH:=t2.1.obj aQ (k1.not aQ (by decide) (by decide) (by decide))
     refine Gn ?_;refine Gs [(0,_),(3,_)] ?_;refine G2 ?_;refine WL.step (ae rfl) rfl rfl rfl (Go ?_);refine WL.ld rfl (by first | exact aa k2.se.bq rfl | assumption) rfl rfl rfl ?_
     refine WL.call (vs:=[_,_]) rfl Tryz.call221 rfl (ql k2 []) rfl rfl rfl ?_
     rintro _ h4 ⟨P4,Iz,k4,IA,t4⟩
     have bx:=t4.1.obj bH (k2.not bH (by decide) (by decide) (by decide))
     have T4:=((Tn.no (A:=A) (P:=P) ay).trans t2).trans t4
     refine Gn ?_;refine Gs [(0,_),(3,_)] ?_;refine G3 ?_;refine WL.ld rfl (by first | exact aa bx rfl | assumption) rfl rfl rfl ?_
     refine WL.call (vs:=[_,_]) rfl Tryz.call203 rfl (kre _ _ _ k4) rfl rfl rfl ?_
     rintro _ h5 ⟨rfl,aN⟩
     dsimp only [fY]
     have k5:=k4.aq aN
     have bT:=aN.obj bx aO
     have T5:=T4.trans (Tn.no aN)
     refine Go ?_;refine Gs [(0,_),(3,_),(6,_)] ?_;refine G2 ?_;refine WL.step (cR (by kernel_rfl) rfl rfl) rfl rfl rfl ?_
     refine Gn ?_
     refine aJ 1 2 ?_ TT.mk
     all_goals (refine ax 2 ?_)
     refine WC.skip ?_;refine Gn ?_;refine G2 ?_;refine WL.ld rfl (by first | exact aa bT rfl | assumption) rfl rfl rfl ?_
     refine WL.call (vs:=[_]) rfl Tryz.call214 rfl (kp _) rfl rfl rfl ?_
     rintro _ h6 ⟨rfl,aM⟩
     refine WL.ai (av (fun w=>Tryz.zeroValue278 w)) rfl rfl rfl ?_
     rintro _ h7 ⟨b7,rfl,Ez,bZ,bh⟩
     refine WL.az (al Tryz.sizeOf278 rfl rfl rfl bZ rfl (by simp [Value.oneCell'])) rfl rfl ?_
     rintro _ h8 ⟨bE,bD⟩
     have IB:Ext No h5 h8:=aM.trans (bh.trans' bD (fun q hq e=>by omega))
     refine Gn ?_;refine Gs [(0,_),(7,_)] ?_;refine WC.seq ?_;refine WC.sr ?_;refine WL.step (an Tryz.isAgg278 Tryz.sizeOf278 rfl rfl (by exact At.au bE)) rfl rfl rfl ?_
     refine WL.call (vs:=[_]) rfl Tryz.call215 rfl (kr _) rfl rfl rfl ?_
     rintro _ h9 ⟨rfl,cg⟩
     have bQ:=cg.obj bE aO
     have k9:=k5.aq (IB.trans cg)
     have T9:=T5.trans (Tn.no (IB.trans cg))
     refine Go ?_
     refine aJ 3 4 ?_ TT.mk
     all_goals (refine ax 3 ?_)
     refine G2 ?_;refine WL.step (an Tryz.isAgg278 Tryz.sizeOf278 rfl rfl (by exact At.au bQ)) rfl rfl rfl ?_
     refine WL.call (vs:=[_,_]) rfl Tryz.call220 rfl (kt _ _ _ k9) rfl rfl rfl ?_
     rintro _ x8 ⟨v11,Nl,KD,rfl,d11⟩
     refine Go ?_;refine Gs [(4,_),(5,_)] ?_;refine Gt ?_
     have hs:cw st sk ov cnt (cj L []) P4=⟨st,sk,ov,cnt,cj (qh L) [],cj (fZ P) []⟩:=by simp only [cw,kW,IA]
     rw [← hs]
     exact fi.trans T9 (fun q hq=>(cC hq).1) Iz ⟨v11,Nl,KD,rfl,d11⟩
   · rw [hw] at kr
     rw [if_pos rfl]
     refine calls [(0,_),(1,_)] Tryz.func151 rfl Tryz.ntmps151 rfl ⟨rfl,rfl,trivial⟩ ?_
     refine WC.sr ?_;refine WL.ai (aB rfl) rfl rfl rfl ?_
     rintro _ h1 ⟨b3,rfl,bO,aQ,ay⟩
     have k1:=k.aq ay
     refine Go ?_;refine G2 ?_;refine WL.step (ae rfl) rfl rfl rfl (Go ?_);refine WL.ld rfl (by first | exact aa k1.se.bq rfl | assumption) rfl rfl rfl ?_
     refine WL.az (fD rfl fJ Tryz.underlying149 Tryz.underlying9 rfl rfl k1.se.stm) rfl rfl ?_
     rintro _ h2 ⟨oY,aH⟩
     rw [eJ] at oY
     obtain ⟨k2,t2⟩:=k1.nA aH oY (fun q hq=>.inl (cC hq).1)
     have bH:=t2.1.obj aQ (k1.not aQ (by decide) (by decide) (by decide))
     refine Gn ?_;refine Gs [(0,_),(3,_)] ?_;refine G2 ?_;refine WL.step (ae rfl) rfl rfl rfl (Go ?_);refine WL.ld rfl (by first | exact aa k2.se.bq rfl | assumption) rfl rfl rfl ?_
     refine WL.call (vs:=[_,_]) rfl Tryz.call221 rfl (ql k2 []) rfl rfl rfl ?_
     rintro _ h4 ⟨P4,Iz,k4,IA,t4⟩
     have bx:=t4.1.obj bH (k2.not bH (by decide) (by decide) (by decide))
     have T4:=((Tn.no (A:=A) (P:=P) ay).trans t2).trans t4
     refine Gn ?_;refine Gs [(0,_),(3,_)] ?_;refine G3 ?_;refine WL.ld rfl (by first | exact aa bx rfl | assumption) rfl rfl rfl ?_
     refine WL.call (vs:=[_,_]) rfl Tryz.call203 rfl (kre _ _ _ k4) rfl rfl rfl ?_
     rintro _ h5 ⟨rfl,aN⟩
     dsimp only [fY]
     have k5:=k4.aq aN
     have bT:=aN.obj bx aO
     have T5:=T4.trans (Tn.no aN)
     refine Go ?_;refine Gs [(0,_),(3,_),(6,_)] ?_;refine G2 ?_;refine WL.step (cR (by kernel_rfl) rfl rfl) rfl rfl rfl ?_
     refine Gn ?_
     refine aJ 1 2 ?_ TT.mk
     all_goals (refine ax 2 ?_)
     refine WC.skip ?_;refine Gn ?_;refine G2 ?_;refine WL.ld rfl (by first | exact aa bT rfl | assumption) rfl rfl rfl ?_
     refine WL.call (vs:=[_]) rfl Tryz.call214 rfl (kp _) rfl rfl rfl ?_
     rintro _ h6 ⟨rfl,aM⟩
     refine WL.ai (av (fun w=>Tryz.zeroValue278 w)) rfl rfl rfl ?_
     rintro _ h7 ⟨b7,rfl,Ez,bZ,bh⟩
     refine WL.az (al Tryz.sizeOf278 rfl rfl rfl bZ rfl (by simp [Value.oneCell'])) rfl rfl ?_
     rintro _ h8 ⟨bE,bD⟩
     have IB:Ext No h5 h8:=aM.trans (bh.trans' bD (fun q hq e=>by omega))
     refine Gn ?_;refine Gs [(0,_),(7,_)] ?_;refine WC.seq ?_;refine WC.sr ?_;refine WL.step (an Tryz.isAgg278 Tryz.sizeOf278 rfl rfl (by exact At.au bE)) rfl rfl rfl ?_
     refine WL.call (vs:=[_]) rfl Tryz.call215 rfl (kr _) rfl rfl rfl ?_
     rintro _ h9 ⟨rfl,cg⟩
     have bQ:=cg.obj bE aO
     have k9:=k5.aq (IB.trans cg)
     have T9:=T5.trans (Tn.no (IB.trans cg))
     refine Go ?_
     refine aJ 3 4 ?_ TT.mk
     all_goals (refine ax 4 ?_)
     refine WC.skip ?_;refine Gn ?_;refine WC.sr ?_;refine WL.step (an Tryz.isAgg278 Tryz.sizeOf278 rfl rfl (by exact At.au bQ)) rfl rfl rfl ?_
     refine WL.call (vs:=[_,_]) rfl Tryz.call223 rfl (kc _) rfl rfl rfl ?_
     rintro _ iD ⟨rfl,cG⟩
     refine WL.call (vs:=[_]) rfl Tryz.call222 rfl (vO _) rfl rfl rfl ?_
     rintro _ x8 ⟨Nn,rfl,KE,EN,f11,dA⟩
     refine WL.ai (aw (vs:=[_]) (cs:=[_,_,_,_,_,_,_,_,_,_,_]) (fun | [.agg ⟨[a0,a1,a2,a3,a4,a5,a6,a7,a8,a9,gd]⟩]=>[a0,a1,a2,a3,a4,a5,a6,a7,a8,a9,gd] | _=>[]) Tryz.underlying80 rfl rfl (by kernel_rfl)) rfl rfl rfl ?_
     rintro _ tQ ⟨Gp,rfl,KF,bX,fO⟩
     have Dk:=(cG.trans dA).trans fO
     have Cn:=k9.aq Dk
     have Np:=cG.size
     have Nq:=dA.size
     have Hv:cB h9 tQ (.slice (some ⟨Gp,0,none⟩) 1 1) [Nn]:=.of KE (fun q hq=>by have:=f11 q hq;omega) fO bX KF (by omega)
     have AD:=Dk.obj bQ aO
     have OI:=T9.trans (Tn.no Dk)
     have n1:¬ (A.bs=A.be∨A.bs=Gp):=fun e=>e.elim (bA Cn.se.bq Cn.se.eb (by decide)) (bA Cn.se.bq bX (by decide))
     have n2:¬ (b7=A.be∨b7=Gp):=fun e=>e.elim (bA AD Cn.se.eb (by decide)) (bA AD bX (by decide))
     have n3:¬ Gp=A.be:=bA bX Cn.se.eb (by decide)
     refine Go ?_;refine Gs [(0,_),(7,_),(8,_)] ?_;refine WC.seq ?_;refine WC.bW (fun h'=>Ext (fun q=>q=A.be∨q=Gp) tQ h') 11 11 rfl dk ?_
     refine WH.tk 0 rfl (fun hq hC=>ak rfl) rfl rfl rfl ?_
     refine WH.tk 1 rfl (fun hq hC=>ak rfl) rfl rfl rfl ?_
     refine WH.tk 2 rfl (fun hq hC=>ae rfl) rfl rfl rfl ?_
     refine WH.tk 3 rfl (fun hq hC=>ad rfl Tryz.underlying153 rfl Tryz.sizeOf46) rfl rfl rfl ?_
     refine WH.tk 4 rfl (fun hq hC=>aA Tryz.isAgg46 rfl (by first | exact hC.cell (by first | exact aa Cn.se.bq rfl | assumption) n1)) rfl rfl rfl ?_
     refine WH.tk 5 rfl (fun hq hC=>an Tryz.isAgg278 Tryz.sizeOf278 rfl rfl (by exact (At.au AD).ext hC n2)) rfl rfl rfl ?_
     refine WH.one 6 (by kernel_rfl) ?_
     refine aE.call (vs:=[_,_,_]) rfl rfl Tryz.call217 rfl (ke _ _ Cn.se.eb hco) rfl rfl rfl ?_ (fun _=>by kernel_rfl)
     rintro uR KG ⟨LL,rL,pL,fL,cm,il⟩
     obtain ⟨KH,t13⟩:=Cn.Av il cm (by unfold dc;split <;> (try split) <;> (try split) <;> dsimp only <;> omega)
     have hlim:=Aw pL (gX _ _ (by simp))
     have Nr:=Hv.ext' il (fun q hq e=>by simp only [Value.ownBlock,Option.some.injEq] at hq;omega) (fun b hb q hq e=>by have:=Hv.bf b hb q hq;have:=aj k9.se.eb;omega)
     refine ⟨fun _=>il.mono fun _ _ e=>.inl e,?_⟩
     refine WH.one 7 (by kernel_rfl) ?_
     refine aE.call (vs:=[_,_]) rfl rfl Tryz.call218 rfl (qj LL rL false hlim.1 hlim.2) rfl rfl rfl ?_ (fun _=>by kernel_rfl)
     rintro OJ IC ⟨OL,Hx,Gq,kQ⟩
     obtain ⟨OM,ON,rfl,_⟩:=Hx.own.slice
     have Gr:Ext (fun q=>q=A.be∨q=Gp) tQ IC:=(il.mono fun _ _ e=>.inl e).trans (kQ.mono fun _ _ e=>e.elim)
     have ID:=Nr.aq kQ
     refine ⟨fun _=>Gr,?_⟩
     refine WH.one 8 (by kernel_rfl) ?_
     refine aE.run rfl (aT (sz:=11) (bytes:=168) rfl Tryz.underlying80 (show Tryz.prog.info? 140=some Tryz.t140 by kernel_rfl) rfl rfl rfl rfl (by decide) rfl rfl ID.own Hx.own.rd (fun v hv=>by obtain ⟨b,hb,hv⟩:=List.mem_flatMap.1 hv;exact (Hx.ok b hb).one v hv) (by have:=Hx.own.len;have:=congrArg List.length Gq;simp [cU] at this;simp only [maxLen,List.length_singleton];omega) (by have:=congrArg List.length Gq;simp [cU] at this;simp only [List.length_singleton];omega)) rfl rfl rfl ?_ (fun _=>by kernel_rfl)
     rintro OO LR ⟨KI,Dl,KJ⟩
     refine ⟨fun _=>Gr.trans (Dl.mono fun q _ e=>.inr (by simpa [Value.ownBlock] using e.symm)),?_⟩
     have KK:Ext (fun q=>q=A.be∨q=Gp) tQ LR:=Gr.trans (Dl.mono fun q _ e=>.inr (by simpa [Value.ownBlock] using e.symm))
     refine WH.tk 9 rfl (fun hq hC=>aR rfl) rfl rfl rfl ?_
     refine WH.tk 10 rfl (fun hq hC=>aR rfl) rfl rfl rfl ?_
     refine WH.done (by kernel_rfl) ?_
     refine Gn ?_;refine Gs [(4,_),(5,_)] ?_;refine Gt ?_
     have X9:Ext (fun q=>q=A.be) h9 LR:=(Dk.mono (S':=fun q=>q=A.be) fun _ _ e=>e.elim).trans' KK (fun q hq e=>e.elim id (fun e=>by omega))
     have eI:=Dl.obj (kQ.obj cm aO) (fun e=>n3 (by simpa [Value.ownBlock] using e))
     obtain ⟨Ns,t15⟩:=k9.Av X9 eI KH.cok
     have Nt:=fO.size
     have OP:=il.size
     have Nu:=ID.append (Hx.mono (h0:=h9) (by omega)) (fun c hc z hz e=>by simp only [Value.ownBlock,Option.some.injEq] at e;have:=Hx.bf c hc z hz;have:=aj bX;omega) (by have:=kQ.size;omega) KI Dl KJ
     exact ⟨_,_,(fun e=>absurd rfl e),rfl,Nu.mono T9.1.size,by rw [List.map_append,Gq,pL,List.map_singleton,EN];rfl,_,_,fun q hq=>(cC hq).1,Iz,Ns,kW _ _,IA,T9.trans t15⟩
 · rw [hr] at kre
   dsimp only
   refine calls [(0,_),(1,_)] Tryz.func151 rfl Tryz.ntmps151 rfl ⟨rfl,rfl,trivial⟩ ?_
   refine WC.sr ?_;refine WL.ai (aB rfl) rfl rfl rfl ?_
   rintro _ h1 ⟨b3,rfl,bO,aQ,ay⟩
   have k1:=k.aq ay
   refine Go ?_;refine G2 ?_;refine WL.step (ae rfl) rfl rfl rfl (Go ?_);refine WL.ld rfl (by first | exact aa k1.se.bq rfl | assumption) rfl rfl rfl ?_
   refine WL.az (fD rfl fJ Tryz.underlying149 Tryz.underlying9 rfl rfl k1.se.stm) rfl rfl ?_
   rintro _ h2 ⟨oY,aH⟩
   rw [eJ] at oY
   obtain ⟨k2,t2⟩:=k1.nA aH oY (fun q hq=>.inl (cC hq).1)
   have bH:=t2.1.obj aQ (k1.not aQ (by decide) (by decide) (by decide))
   refine Gn ?_;refine Gs [(0,_),(3,_)] ?_;refine G2 ?_;refine WL.step (ae rfl) rfl rfl rfl (Go ?_);refine WL.ld rfl (by first | exact aa k2.se.bq rfl | assumption) rfl rfl rfl ?_
   refine WL.call (vs:=[_,_]) rfl Tryz.call221 rfl (ql k2 []) rfl rfl rfl ?_
   rintro _ h4 ⟨P4,Iz,k4,IA,t4⟩
   have bx:=t4.1.obj bH (k2.not bH (by decide) (by decide) (by decide))
   have T4:=((Tn.no (A:=A) (P:=P) ay).trans t2).trans t4
   refine Gn ?_;refine Gs [(0,_),(3,_)] ?_;refine G3 ?_;refine WL.ld rfl (by first | exact aa bx rfl | assumption) rfl rfl rfl ?_
   refine WL.call (vs:=[_,_]) rfl Tryz.call203 rfl (kre _ _ _ k4) rfl rfl rfl ?_
   rintro _ h5 ⟨rfl,aN⟩
   dsimp only [fY]
   have k5:=k4.aq aN
   have bT:=aN.obj bx aO
   have T5:=T4.trans (Tn.no aN)
   refine Go ?_;refine Gs [(0,_),(3,_),(6,_)] ?_;refine G2 ?_;refine WL.step (fR (by kernel_rfl) rfl rfl) rfl rfl rfl ?_
   refine Gn ?_
   refine aJ 1 2 ?_ TT.mk
   all_goals (refine ax 1 ?_)
   refine G2 ?_;refine Gs [(4,_),(5,_)] ?_;refine Gt ?_
   have hs:cw st sk ov cnt (cj L []) P4=⟨st,sk,ov,cnt,cj (qh L) [],cj (fZ P) []⟩:=by simp only [cw,kW,IA]
   rw [← hs]
   exact ⟨_,[],fun _=>rfl,rfl,cB.nil _ _,rfl,_,_,fun q hq=>(cC hq).1,Iz,k5,rfl,rfl,T5⟩
end
section
variable {h h':ah} {bs ms bp mp be me:Nat} {st st':Int} {sk ov:Bool} {cnt:Int} {L P P' R:List (List UInt8 × Value)} {S:Nat→Prop}
theorem vT {h:ah} (t:Value):ag Tryz.prog 102 ⟨[.nilIface,t]⟩ h fun u h'=>u=.bool false∧h'=h:=by
 refine calls [(0,_),(1,_)] Tryz.func102 rfl Tryz.ntmps102 rfl ⟨rfl,rfl,trivial⟩ ?_
 refine G2 ?_;refine G3 ?_;refine WL.step (rX (by kernel_rfl) rfl rfl) rfl rfl rfl ?_
 refine Gn ?_
 refine aJ 1 2 ?_ TT.mk
 all_goals (refine ax 1 ?_)
 refine G2 ?_;refine Gs [(4,_)] ?_;refine Gt ?_
 exact ⟨rfl,rfl⟩
end
section
variable {h h':ah} {bs ms bp mp be me:Nat} {st st':Int} {sk ov:Bool} {cnt:Int} {L P P' R:List (List UInt8 × Value)} {S:Nat→Prop}
abbrev L1:List (List UInt8 × Value):=[(([97]:List UInt8),.agg ⟨[St qd,nS]⟩)]
end
end Go.Proofs.YtopgddfgefnmbaaGreatDoor
namespace Go.Proofs.YtopgddfgefnmbaaGreatDoor
open Go Go.RowKit Go.Extern.Stop Go.Stop Go.Extern
open Go.RK (St In)
theorem Rf.xD (t:Addr) (w:World):(ReflectliteValue.unpack (.iface 171 (.pointer (some t)))).run Tryz.prog w
   = .ok (.agg #[.pointer (some ⟨4,171,none⟩),.pointer (some ⟨w.heap.size,0,none⟩),.int .u64 150]) (w.alloc (.cells #[.pointer (some t)] 171)):=by kernel_rfl
theorem Rf.type27 (a:Addr) (w:World):(ReflectliteValue.methodAny (ReflectliteValue.valueError "reflectlite.Value.Type" 0) (fun t _ _ _=>ReflectliteType.toType t) #[.agg #[.pointer (some ⟨4,171,none⟩),.pointer (some a),.int .u64 150]]).run Tryz.prog w
   = .ok (.iface 290 (.agg #[.pointer (some ⟨4,171,none⟩)])) w:=by kernel_rfl
theorem Rf.uB (h:Value) (w:World):(Go.method 512 290 (.agg #[h]) "Kind").run Tryz.prog w=.ok (338,h) w:=by kernel_rfl
theorem Rf.Gu (w:World):((ReflectliteType.abiMethod fun t=>(fun a:Nat=>Value.int IntKind.u8 (a:Int)) <$> Rtype.kind t) #[.pointer (some ⟨4,171,none⟩)]).run Tryz.prog w=.ok (.int .u8 22) w:=by kernel_rfl
theorem Rf.Gv (w:World):((ReflectliteType.abiMethod fun t=>(fun a:Nat=>Value.int IntKind.u8 (a:Int)) <$> Rtype.kind t) #[.pointer (some ⟨4,169,none⟩)]).run Tryz.prog w=.ok (.int .u8 25) w:=by kernel_rfl
theorem LS (z:Sem Value) (f:TypeId→Addr→Nat→Nat→Sem Value) (v:Value) :
   ReflectliteValue.method z f #[v]=(do match ← ReflectliteValue.parts v with | none=>z | some (t,a,fl)=>f t a fl (fl % 32)):=rfl
theorem Rf.vU (a:Addr) (w:World):(ReflectliteValue.parts (.agg #[.pointer (some ⟨4,171,none⟩),.pointer (some a),.int .u64 150])).run Tryz.prog w=.ok (some (171,a,150)) w:=by kernel_rfl
theorem Rf.Dm (a p:Addr) (W:World) (ha:W.cell? a=some (.pointer (some p))) :
   (ReflectliteValue.method (ReflectliteValue.valueError "reflectlite.Value.IsNil" 0) ReflectliteValue.isNil #[.agg #[.pointer (some ⟨4,171,none⟩),.pointer (some a),.int .u64 150]]).run Tryz.prog W=.ok (.bool false) W:=by
 rw [LS]
 simp only [Sem.run_bind,Rf.vU,Result.andThen]
 simp [ReflectliteValue.isNil,loadVar,isAgg,underlying,Tryz.underlying171,ha,Result.andThen]
theorem Rf.uC (h:Value) (w:World):(Go.method 512 290 (.agg #[h]) "Elem").run Tryz.prog w=.ok (349,.agg #[h]) w:=by kernel_rfl
theorem Rf.lS (h:Value) (w:World):(Go.method 512 290 (.agg #[h]) "Implements").run Tryz.prog w=.ok (350,.agg #[h]) w:=by kernel_rfl
theorem Rf.j0 (h:Value) (w:World):(Go.method 512 290 (.agg #[h]) "AssignableTo").run Tryz.prog w=.ok (347,.agg #[h]) w:=by kernel_rfl
theorem Rf.Gw (w:World):(ReflectliteType.method ReflectliteType.elem #[.agg #[.pointer (some ⟨4,171,none⟩)]]).run Tryz.prog w=.ok (.iface 290 (.agg #[.pointer (some ⟨4,169,none⟩)])) w:=by kernel_rfl
theorem Rf.qm (w:World):(ReflectliteType.relation "Implements" ReflectliteType.implements_ #[.agg #[.pointer (some ⟨4,169,none⟩)],.iface 290 (.agg #[.pointer (some ⟨4,165,none⟩)])]).run Tryz.prog w=.ok (.bool true) w:=by kernel_rfl
theorem Rf.AE (v:Value) (w:World):(ReflectliteType.typeOf #[.iface 169 v]).run Tryz.prog w=.ok (.iface 290 (.agg #[.pointer (some ⟨4,169,none⟩)])) w:=by kernel_rfl
theorem Rf.qn (w:World):(ReflectliteType.relation "AssignableTo" ReflectliteType.assignableTo #[.agg #[.pointer (some ⟨4,169,none⟩)],.iface 290 (.agg #[.pointer (some ⟨4,169,none⟩)])]).run Tryz.prog w=.ok (.bool true) w:=by kernel_rfl
theorem Rf.xE (a c:List UInt8) (w:World):(ReflectliteValue.unpack (.iface 169 (.agg #[St a,St c]))).run Tryz.prog w
   = .ok (.agg #[.pointer (some ⟨4,169,none⟩),.pointer (some ⟨w.heap.size,0,none⟩),.int .u64 153]) (w.alloc (.cells #[St a,St c] 169)):=by kernel_rfl
theorem Rf.AF (w:World):(Rtype.elem? 171).run Tryz.prog w=.ok (some 169) w:=by kernel_rfl
theorem Rf.KL (p:Addr) (w:World):(ReflectliteValue.mk 169 p ReflectliteValue.flagAddr).run Tryz.prog w=.ok (.agg #[.pointer (some ⟨4,169,none⟩),.pointer (some p),.int .u64 409]) w:=by kernel_rfl
theorem Rf.Dn (a p:Addr) (W:World) (ha:W.cell? a=some (.pointer (some p))) :
   (ReflectliteValue.method (ReflectliteValue.valueError "reflectlite.Value.Elem" 0) ReflectliteValue.elem #[.agg #[.pointer (some ⟨4,171,none⟩),.pointer (some a),.int .u64 150]]).run Tryz.prog W
     = .ok (.agg #[.pointer (some ⟨4,169,none⟩),.pointer (some p),.int .u64 409]) W:=by
 rw [LS]
 simp only [Sem.run_bind,Rf.vU,Result.andThen]
 simp [ReflectliteValue.elem,loadVar,isAgg,underlying,Tryz.underlying171,ha,Result.andThen,Rf.AF,Rf.KL]
theorem Nv (v x:Value):ReflectliteValue.set #[v,x]=(do
   let (some (dst,a,fl),some (src,b,_)):=(← ReflectliteValue.parts v,← ReflectliteValue.parts x)
     | unsupported (.noEntry "extern/(internal/reflectlite.Value).Set.zeroValue")
   if fl / ReflectliteValue.flagAddr % 2 == 0 then unsupported (.noEntry "extern/(internal/reflectlite.Value).Set.unaddressable")
   let val ← loadVar src b
   if ← Rtype.directlyAssignable dst src then storeVar dst a val
   else if ← Rtype.implements dst src then
     if (← Rtype.kind src) == 20 then
       match val with
       | .nilIface=>unsupported (.noEntry "extern/reflectlite: a nil value of one interface type handed on as a value of another")
       | _=>storeVar dst a val
     else storeVar dst a (.iface src val)
   else panicString ("reflectlite.Set: value of type " ++ (← Rtype.spelt src) ++ " is not assignable to type " ++ (← Rtype.spelt dst))
   pure (.tuple #[])):=rfl
theorem Rf.AG (a:Addr) (w:World):(ReflectliteValue.parts (.agg #[.pointer (some ⟨4,169,none⟩),.pointer (some a),.int .u64 409])).run Tryz.prog w=.ok (some (169,a,409)) w:=by kernel_rfl
theorem Rf.Dp (a:Addr) (w:World):(ReflectliteValue.parts (.agg #[.pointer (some ⟨4,169,none⟩),.pointer (some a),.int .u64 153])).run Tryz.prog w=.ok (some (169,a,153)) w:=by kernel_rfl
theorem Rf.AH (w:World):(Rtype.directlyAssignable 169 169).run Tryz.prog w=.ok true w:=by kernel_rfl
end Go.Proofs.YtopgddfgefnmbaaGreatDoor
namespace Go.Proofs.YtopgddfgefnmbaaGreatDoor
open Go Go.RowKit Go.Extern.Stop Go.Stop Go.Extern
open Go.RK (St In)
theorem dX (h:Array Obj) (o:Obj) {k:Nat} (hk:k < h.size):(h.push o)[k]?=h[k]?:=by simp [Array.getElem?_push,Nat.ne_of_lt hk]
theorem Rf.IE (a c:List UInt8) (bt b:Nat) (o1 o2:Value) (W:World) (hb:W.heap[b]?=some (.cells ⟨[St a,St c]⟩ 169 (0,0))) (ht:W.heap[bt]?=some (.cells ⟨[o1,o2]⟩ 169 (0,0))) :
   ∃ w',(ReflectliteValue.set #[.agg #[.pointer (some ⟨4,169,none⟩),.pointer (some ⟨bt,0,none⟩),.int .u64 409],.agg #[.pointer (some ⟨4,169,none⟩),.pointer (some ⟨b,0,none⟩),.int .u64 153]]).run Tryz.prog W
     = .ok (.tuple #[]) w'∧Go.RK.eE W w'∧w'.heap=W.heap.setIfInBounds bt (.cells ⟨[St a,St c]⟩ 169 (0,0)):=by
 have i1:=Tryz.isAgg169 W
 have s1:=Tryz.sizeOf169 W
 have l1:(loadCells ⟨b,0,none⟩ 2).run Tryz.prog W=.ok #[St a,St c] W:=run_loadCells_list W _ [St a,St c] fun j v hj=>by rw [Addr.add_lit];exact Go.RK.At.au hb j v hj
 obtain ⟨w',hr,hs,hh⟩:=Go.RK.cN (P:=Tryz.prog) bt 169 [St a,St c] 0 0 [o1,o2] W ht (by simp) (by simp [Value.oneCell'])
 refine ⟨w',?_,hs,by rw [hh];simp⟩
 rw [Nv]
 simp only [Sem.run_bind,Rf.AG,Rf.Dp,Result.andThen]
 simp [ReflectliteValue.flagAddr,loadVar,i1,s1,l1,Result.andThen,Rf.AH,storeVar,Value.cells,hr]
theorem Gx (a c:List UInt8) (bt:Nat) (o1 o2:Value) (w:World) (hg:w.cell? ⟨0,0,none⟩=some (.iface 290 (.agg #[.pointer (some ⟨4,165,none⟩)]))) (LU:w.heap[bt]?=some (.cells ⟨[o1,o2]⟩ 169 (0,0))) :
   Calls Tryz.prog 102 #[.iface 169 (.agg #[St a,St c]),.iface 171 (.pointer (some ⟨bt,0,none⟩))] w fun ev w'=>ev=.returned (.bool true)∧Go.RK.eE ((((w.alloc (.cells #[.pointer (some ⟨bt,0,none⟩)] 171)).alloc (.cells #[.pointer (some ⟨4,171,none⟩),.pointer (some ⟨w.heap.size,0,none⟩),.int .u64 150] 218)).alloc (.cells #[.pointer (some ⟨4,171,none⟩),.pointer (some ⟨w.heap.size,0,none⟩),.int .u64 150] 218)).alloc (.cells #[St a,St c] 169)) w'∧w'.heap=((((w.alloc (.cells #[.pointer (some ⟨bt,0,none⟩)] 171)).alloc (.cells #[.pointer (some ⟨4,171,none⟩),.pointer (some ⟨w.heap.size,0,none⟩),.int .u64 150] 218)).alloc (.cells #[.pointer (some ⟨4,171,none⟩),.pointer (some ⟨w.heap.size,0,none⟩),.int .u64 150] 218)).alloc (.cells #[St a,St c] 169)).heap.setIfInBounds bt (.cells ⟨[St a,St c]⟩ 169 (0,0)):=by
 have h6:=@run_callFunc_extern Tryz.prog 152 _ (fun args=>ReflectliteValue.unpack (args.getD 0 (.tuple #[]))) Tryz.func152 (by kernel_rfl) (by kernel_rfl) (by kernel_rfl) (by kernel_rfl)
 have h7:=@run_callFunc_extern Tryz.prog 153 _ (ReflectliteValue.methodAny (ReflectliteValue.valueError "reflectlite.Value.Type" 0) (fun t _ _ _=>ReflectliteType.toType t)) Tryz.func153 (by kernel_rfl) (by kernel_rfl) (by kernel_rfl) (by kernel_rfl)
 have h8:=@run_callFunc_extern Tryz.prog 154 _ (ReflectliteValue.method (ReflectliteValue.valueError "reflectlite.Value.IsNil" 0) ReflectliteValue.isNil) Tryz.func154 (by kernel_rfl) (by kernel_rfl) (by kernel_rfl) (by kernel_rfl)
 have OQ:=@run_callFunc_extern Tryz.prog 338 _ (ReflectliteType.abiMethod fun t=>do pure (.int .u8 (← Rtype.kind t))) Tryz.func338 (by kernel_rfl) (by kernel_rfl) (by kernel_rfl) (by kernel_rfl)
 have OR:=@run_callFunc_extern Tryz.prog 349 _ (ReflectliteType.method ReflectliteType.elem) Tryz.func349 (by kernel_rfl) (by kernel_rfl) (by kernel_rfl) (by kernel_rfl)
 have OS:=@run_callFunc_extern Tryz.prog 350 _ (ReflectliteType.relation "Implements" ReflectliteType.implements_) Tryz.func350 (by kernel_rfl) (by kernel_rfl) (by kernel_rfl) (by kernel_rfl)
 have iD:=@run_callFunc_extern Tryz.prog 224 _ ReflectliteType.typeOf Tryz.func224 (by kernel_rfl) (by kernel_rfl) (by kernel_rfl) (by kernel_rfl)
 have OT:=@run_callFunc_extern Tryz.prog 347 _ (ReflectliteType.relation "AssignableTo" ReflectliteType.assignableTo) Tryz.func347 (by kernel_rfl) (by kernel_rfl) (by kernel_rfl) (by kernel_rfl)
 have x8:=@run_callFunc_extern Tryz.prog 225 _ (ReflectliteValue.method (ReflectliteValue.valueError "reflectlite.Value.Elem" 0) ReflectliteValue.elem) Tryz.func225 (by kernel_rfl) (by kernel_rfl) (by kernel_rfl) (by kernel_rfl)
 have tQ:=@run_callFunc_extern Tryz.prog 226 _ ReflectliteValue.set Tryz.func226 (by kernel_rfl) (by kernel_rfl) (by kernel_rfl) (by kernel_rfl)
 have tO:=Rf.AE
 have mA:=Rf.j0
 have OU:=Rf.qn
 have OV:=Rf.xE
 have f6:=Rf.xD
 have f7:=Rf.type27
 have mK:=Rf.uB
 have mE:=Rf.uC
 have mI:=Rf.lS
 have OW:=Rf.Gu
 have OX:=Rf.Gv
 have OY:=Rf.Gw
 have i25:=Rf.qm
 have n8:=Rf.Dm ⟨w.heap.size,0,none⟩ ⟨bt,0,none⟩ ((w.alloc (.cells #[.pointer (some ⟨bt,0,none⟩)] 171)).alloc (.cells #[.pointer (some ⟨4,171,none⟩),.pointer (some ⟨w.heap.size,0,none⟩),.int .u64 150] 218)) (by simp)
 have hlt:0 < w.heap.size:=by
   rcases Nat.eq_zero_or_pos w.heap.size with h0 | h
   · simp [World.cell?,h0] at hg
   · exact h
 have eS:((w.alloc (.cells #[.pointer (some ⟨bt,0,none⟩)] 171)).alloc (.cells #[.pointer (some ⟨4,171,none⟩),.pointer (some ⟨w.heap.size,0,none⟩),.int .u64 150] 218)).cell? ⟨0,0,none⟩=some (.iface 290 (.agg #[.pointer (some ⟨4,165,none⟩)])):=by
   rw [World.cell?_alloc_lt _ _ ⟨0,0,none⟩ (by simp),World.cell?_alloc_lt _ _ ⟨0,0,none⟩ hlt];exact hg
 have htl:bt < w.heap.size:=Go.RK.aj LU
 have el:=Rf.Dn ⟨w.heap.size,0,none⟩ ⟨bt,0,none⟩ (((w.alloc (.cells #[.pointer (some ⟨bt,0,none⟩)] 171)).alloc (.cells #[.pointer (some ⟨4,171,none⟩),.pointer (some ⟨w.heap.size,0,none⟩),.int .u64 150] 218)).alloc (.cells #[.pointer (some ⟨4,171,none⟩),.pointer (some ⟨w.heap.size,0,none⟩),.int .u64 150] 218)) (by rw [World.cell?_alloc_lt _ _ ⟨w.heap.size,0,none⟩ (by simp;omega)];simp)
 obtain ⟨w',st,hsm,hhp⟩:=Rf.IE a c bt (w.heap.size+1+1+1) o1 o2 ((((w.alloc (.cells #[.pointer (some ⟨bt,0,none⟩)] 171)).alloc (.cells #[.pointer (some ⟨4,171,none⟩),.pointer (some ⟨w.heap.size,0,none⟩),.int .u64 150] 218)).alloc (.cells #[.pointer (some ⟨4,171,none⟩),.pointer (some ⟨w.heap.size,0,none⟩),.int .u64 150] 218)).alloc (.cells #[St a,St c] 169))
   (by simp only [World.alloc];rw [Array.getElem?_push,if_pos (by simp)])
   (by simp only [World.alloc];rw [dX _ _ (by simp;omega),dX _ _ (by simp;omega),dX _ _ (by simp;omega),dX _ _ htl];exact LU)
 go_enter Tryz.func102,Tryz.ntmps102
 go_wp2
 refine wp_loop_rounds 1 ?_
 rw [rounds_succ]
 go_wp2
 go_ret
 exact ⟨rfl,hsm,hhp⟩
end Go.Proofs.YtopgddfgefnmbaaGreatDoor
namespace Go.Proofs.YtopgddfgefnmbaaGreatDoor
open Go Go.RK
def Er (h:ah):Prop:=At h 0 0 [.iface 290 (.agg #[.pointer (some ⟨4,165,none⟩)])]
theorem Er.aq {h h':ah} (e:Er h) (a:Ext No h h'):Er h':=At.ext e a aO
theorem Er.ext {h h':ah} {S:Nat→Prop} (e:Er h) (a:Ext S h h') (hS:¬ S 0):Er h':=At.ext e a hS
theorem o6 {h:ah} {bt:Nat} {o1 o2:Value} (a c:List UInt8) (er:Er h) (hb:h[bt]?=some (.cells ⟨[o1,o2]⟩ 169 (0,0))) :
   ag Tryz.prog 102 ⟨[.iface 169 (.agg ⟨[St a,St c]⟩),.iface 171 (.pointer (some ⟨bt,0,none⟩))]⟩ h fun u h'=>u=.bool true∧h'[bt]?=some (.cells ⟨[St a,St c]⟩ 169 (0,0))∧Ext (fun q=>q=bt) h h':=fun w hw=>by
 subst hw
 have hlt:=aj hb
 refine (Gx a c bt o1 o2 w (er 0 _ rfl) hb).mono fun e w' ⟨he,hsm,hhp⟩=>?_
 refine ⟨⟨hsm.tape,hsm.os,hsm.output,hsm.drawn⟩,_,he,rfl,?_,?_,?_⟩
 · rw [hhp]
   simp only [World.alloc,Array.getElem?_setIfInBounds,↓reduceIte]
   rw [if_pos (by simp;omega)]
 · rw [hhp]
   simp only [World.alloc,Array.size_setIfInBounds,Array.size_push]
   omega
 · intro b hbl hS
   rw [hhp]
   simp only [World.alloc,Array.getElem?_setIfInBounds]
   rw [if_neg (fun e=>hS e.symm),dX _ _ (by simp;omega),dX _ _ (by simp;omega),dX _ _ (by simp;omega),dX _ _ hbl]
theorem IF:Tryz.prog.globalNamed "errors.errorType" = some 0:=by kernel_rfl
theorem IG:(Tryz.prog.cutTypes.find? (·.1 == "internal/reflectlite.rtype")).map (·.2)=some 290:=by kernel_rfl
theorem Gy:((List.range 412).filter fun t=>Tryz.prog.rowNamed t [101,114,114,111,114])=[165]:=by kernel_rfl
theorem Dq:Tryz.prog.types.size=412:=by kernel_rfl
section
variable {h h':ah} {A:Ad} {st:Int} {sk ov:Bool} {cnt:Int} {L:List (List UInt8 × gR)} {P:List (List UInt8 × ez)}
theorem Ss.AJ (k:Ss h A st sk ov cnt L P) {st':Int} {sk' ov':Bool} {P':List (List UInt8 × ez)} (x:Ext (fun z=>z=A.bs∨z=A.mp) h h') (hb:h'[A.bs]?=some (.cells ⟨[.map (some A.ms),.pointer (some ⟨A.bp,0,none⟩),.pointer (some ⟨A.be,0,none⟩),.int .u8 st',.bool sk',.bool ov']⟩ 153 (0,0))) (hm:Mp .string St h' A.mp (fh vJ P')) (hP:∀ q∈P',q∈P) (hs:jb st'):Ss h' A st' sk' ov' cnt L P'∧Tn A P h h' P':=by
 have hlt:=aj k.se.bq
 have x1:=Ext.set (S:=fun z=>z=A.bs) h A.bs (.cells ⟨[.map (some A.ms),.pointer (some ⟨A.bp,0,none⟩),.pointer (some ⟨A.be,0,none⟩),.int .u8 st',.bool sk',.bool ov']⟩ 153 (0,0)) rfl
 obtain ⟨k1,t1⟩:=k.jL x1 (dI k.se.bq) hs
 have x2:Ext (fun z=>z=A.mp) (h.setIfInBounds A.bs (.cells ⟨[.map (some A.ms),.pointer (some ⟨A.bp,0,none⟩),.pointer (some ⟨A.be,0,none⟩),.int .u8 st',.bool sk',.bool ov']⟩ 153 (0,0))) h':=by
   refine ⟨by rw [Array.size_setIfInBounds];exact x.size,fun z hz hn=>?_⟩
   rw [Array.size_setIfInBounds] at hz
   by_cases e:z=A.bs
   · subst e
     rw [hb,dI k.se.bq]
   · rw [Array.getElem?_setIfInBounds_ne (fun y=>e y.symm)]
     exact x.ab z hz (fun y=>y.elim e hn)
 obtain ⟨k2,t2⟩:=k1.cK x2 hm hP
 exact ⟨k2,t1.trans t2⟩
theorem AK {h:ah} {v:Value} {c t:List UInt8} (hr:Rd h v 2 4 ((j5 ([69,82,82,79,82]:List UInt8) c t).flatMap aY.cells)):Bk.ok h ⟨69,0,[],[],[],0,0,nS,[],nS,[],nS,[],v,j5 ([69,82,82,79,82]:List UInt8) c t⟩:=⟨⟨Rd.nil _ _,by simp⟩,⟨Rd.nil _ _,by simp⟩,gN _ _,⟨hr,by simp [j5,maxLen]⟩⟩
theorem EO {v:Value} {c t:List UInt8} {q:Nat} (hq:Bk.F ⟨69,0,[],[],[],0,0,nS,[],nS,[],nS,[],v,j5 ([69,82,82,79,82]:List UInt8) c t⟩ q):v.ownBlock=some q:=by
 rcases hq with ⟨e,_⟩ | ⟨e,_⟩ | e | ⟨_,e⟩
 · exact absurd e (Nat.lt_irrefl 0)
 · exact absurd e (Nat.lt_irrefl 0)
 · exact (fH rfl e).elim
 · exact e
theorem sw (k:Ss h A st sk ov cnt L P) (c t:List UInt8):ag Tryz.prog 103 ⟨[.pointer (some ⟨A.bs,0,none⟩),.agg ⟨[St c,St t]⟩]⟩ h fun u h'=>(∃ b:Bk,u=.agg ⟨b.cells⟩∧b.ok h'∧b.p=oq c t∧∀ z,b.F z→h.size≤z) ∧
   (∃ P',(∀ q∈P',q∈P)∧Ss h' A (fp st) sk ov cnt L P'∧fZ P'=(if fp st=69 then [] else fZ P)∧Tn A P h h' P')∧Ext (fun q=>q=A.bs∨q=A.mp) h h':=by
 have hso:=nz k.sto
 have kf:=fun h'=>zR (h:=h') k.sto
 have lb:=aj k.se.bq
 by_cases e:fp st=69
 · rw [if_pos e]
   rw [e] at kf ⊢
   refine calls [(0,_),(1,_)] Tryz.func103 rfl Tryz.ntmps103 rfl ⟨rfl,rfl,trivial⟩ ?_
   refine WC.sr ?_;refine WL.ai (aB rfl) rfl rfl rfl ?_
   rintro _ h1 ⟨b3,rfl,bO,aQ,ay⟩
   refine WL.ai (av (fun w=>Tryz.zeroValue140 w)) rfl rfl rfl ?_
   rintro _ h2 ⟨b4,rfl,eS,bH,aH⟩
   have k2:=(k.aq ay).aq aH
   have bX:=aH.obj aQ aO
   have s1:=ay.size
   refine Gn ?_;refine G2 ?_;refine WL.step (ae rfl) rfl rfl rfl (Go ?_);refine WL.ld rfl (by first | exact aa k2.se.bq rfl | assumption) rfl rfl rfl ?_
   refine WL.call (vs:=[_]) rfl Tryz.call156 rfl (kf _) rfl rfl rfl ?_
   rintro _ hz ⟨rfl,_⟩
   subst hz
   refine WL.step (ae rfl) rfl rfl rfl (Go ?_);refine WL.az (aC Tryz.sizeOf5 rfl rfl k2.se.bq (Nat.le_of_ble_eq_true rfl) rfl rfl) rfl rfl ?_
   rintro _ h3 ⟨bn,aP⟩
   obtain ⟨k3,t3⟩:=k2.jL aP bn (by first | exact e▸hso | exact hso)
   have Dr:=aP.obj bX (fun e=>bA bX k2.se.bq (by decide) e)
   have sj:=aP.obj bH (fun e=>bA bH k2.se.bq (by decide) e)
   have KM:Ext (fun q=>q=A.bs) h h3:=((ay.trans aH).mono fun _ _ e=>e.elim).trans aP
   refine Gn ?_;refine Gs [(0,_),(3,_),(4,_)] ?_;refine G3 ?_;refine WL.step (ae rfl) rfl rfl rfl (Go ?_);refine WL.ld rfl (by first | exact aa k3.se.bq rfl | assumption) rfl rfl rfl (Go ?_)
   refine Gs [(0,_),(3,_),(4,_),(17,_)] ?_
   refine aJ 1 2 ?_ TT.mk
   all_goals (refine ax 1 ?_)
   refine WC.region (Go ?_);refine WL.step (ae rfl) rfl rfl rfl (Go ?_);refine WL.ld rfl (by first | exact aa k3.se.bq rfl | assumption) rfl rfl rfl ?_
   refine WL.call (vs:=[_]) rfl Tryz.call145 rfl (qk k3) rfl rfl rfl ?_
   rintro _ h4 ⟨rfl,k4,t4,aW⟩
   have AL:=aW.obj Dr (fun e=>eo k3.se.pm Dr e)
   have lQ:=aW.obj sj (fun e=>eo k3.se.pm sj e)
   have IH:Ext (fun q=>q=A.bs∨q=A.mp) h h4:=(KM.mono fun _ _ e=>.inl e).trans (aW.mono fun _ _ e=>.inr e)
   refine Gn ?_;refine Gn ?_;refine G2 ?_;refine WL.ld rfl (by first | exact aa AL rfl | assumption) rfl rfl rfl (Go ?_)
   refine WL.ld rfl (by first | exact aa AL rfl | assumption) rfl rfl rfl ?_
   refine WL.call (vs:=[_,_]) rfl Tryz.call157 rfl (vF c t) rfl rfl rfl ?_
   rintro _ h5 ⟨v5,rfl,eG,aN,gZ⟩
   obtain ⟨A5,c5,rfl,_⟩:=eG.slice
   refine WL.az (al Tryz.sizeOf140 rfl rfl rfl (aN.obj lQ aO) rfl (by simp [eB,Value.oneCell'])) rfl rfl ?_
   rintro _ h6 ⟨bN,aM⟩
   have EP:=(IH.trans (aN.mono fun _ _ e=>e.elim)).trans' aM (fun q hq e=>by omega)
   have kk:=k.AJ (P':=[]) EP (aM.obj (aN.obj k4.se.bq aO) (bA k4.se.bq lQ (by decide))) ((k4.se.pm.ext aN aO).ext aM (fun e=>eo k4.se.pm lQ e.symm)) (fun q hq=>nomatch hq) (e▸hso)
   refine Gn ?_;refine Gs [(4,_)] ?_;refine WC.ret ?_
   repeat' (with_reducible first | refine ba ?_ | refine aV ?_)
   refine bY _ ⟨⟨_,rfl,bB Tryz.isAgg140 Tryz.sizeOf140 bN rfl⟩,trivial⟩ ?_
   exact ⟨⟨⟨69,0,[],[],[],0,0,nS,[],nS,[],nS,[],.slice A5 4 c5,j5 ([69,82,82,79,82]:List UInt8) c t⟩,rfl,AK (eG.ext aM (fun q hq z=>by have:=gZ q hq;have:=aj lQ;omega)).rd,rfl,fun z hz=>by have:=gZ z (EO hz);have:=IH.size;omega⟩,⟨[],(fun q hq=>nomatch hq),kk.1,rfl,kk.2⟩,EP⟩
 · rw [if_neg e]
   refine calls [(0,_),(1,_)] Tryz.func103 rfl Tryz.ntmps103 rfl ⟨rfl,rfl,trivial⟩ ?_
   refine WC.sr ?_;refine WL.ai (aB rfl) rfl rfl rfl ?_
   rintro _ h1 ⟨b3,rfl,bO,aQ,ay⟩
   refine WL.ai (av (fun w=>Tryz.zeroValue140 w)) rfl rfl rfl ?_
   rintro _ h2 ⟨b4,rfl,eS,bH,aH⟩
   have k2:=(k.aq ay).aq aH
   have bX:=aH.obj aQ aO
   have s1:=ay.size
   refine Gn ?_;refine G2 ?_;refine WL.step (ae rfl) rfl rfl rfl (Go ?_);refine WL.ld rfl (by first | exact aa k2.se.bq rfl | assumption) rfl rfl rfl ?_
   refine WL.call (vs:=[_]) rfl Tryz.call156 rfl (kf _) rfl rfl rfl ?_
   rintro _ hz ⟨rfl,_⟩
   subst hz
   refine WL.step (ae rfl) rfl rfl rfl (Go ?_);refine WL.az (aC Tryz.sizeOf5 rfl rfl k2.se.bq (Nat.le_of_ble_eq_true rfl) rfl rfl) rfl rfl ?_
   rintro _ h3 ⟨bn,aP⟩
   obtain ⟨k3,t3⟩:=k2.jL aP bn (by first | exact e▸hso | exact hso)
   have Dr:=aP.obj bX (fun e=>bA bX k2.se.bq (by decide) e)
   have sj:=aP.obj bH (fun e=>bA bH k2.se.bq (by decide) e)
   have KM:Ext (fun q=>q=A.bs) h h3:=((ay.trans aH).mono fun _ _ e=>e.elim).trans aP
   refine Gn ?_;refine Gs [(0,_),(3,_),(4,_)] ?_;refine G3 ?_;refine WL.step (ae rfl) rfl rfl rfl (Go ?_);refine WL.ld rfl (by first | exact aa k3.se.bq rfl | assumption) rfl rfl rfl ?_
   have AL:=Dr
   have lQ:=sj
   have k4:=k3
   have IH:Ext (fun q=>q=A.bs∨q=A.mp) h h3:=KM.mono fun _ _ e=>.inl e
   refine Go ?_;refine Gs [(0,_),(3,_),(4,_),(17,_)] ?_
   refine aJ 1 2 ?_ TT.mk
   all_goals (refine ax 2 ?_)
   refine WC.skip ?_;refine Gn ?_;refine G2 ?_;refine WL.ld rfl (by first | exact aa AL rfl | assumption) rfl rfl rfl (Go ?_)
   refine WL.ld rfl (by first | exact aa AL rfl | assumption) rfl rfl rfl ?_
   refine WL.call (vs:=[_,_]) rfl Tryz.call157 rfl (vF c t) rfl rfl rfl ?_
   rintro _ h5 ⟨v5,rfl,eG,aN,gZ⟩
   obtain ⟨A5,c5,rfl,_⟩:=eG.slice
   refine WL.az (al Tryz.sizeOf140 rfl rfl rfl (aN.obj lQ aO) rfl (by simp [eB,Value.oneCell'])) rfl rfl ?_
   rintro _ h6 ⟨bN,aM⟩
   have EP:=(IH.trans (aN.mono fun _ _ e=>e.elim)).trans' aM (fun q hq e=>by omega)
   have kk:=k.AJ EP (aM.obj (aN.obj k4.se.bq aO) (bA k4.se.bq lQ (by decide))) ((k4.se.pm.ext aN aO).ext aM (fun e=>eo k4.se.pm lQ e.symm)) (fun q hq=>hq) hso
   refine Gn ?_;refine Gs [(4,_)] ?_;refine WC.ret ?_
   repeat' (with_reducible first | refine ba ?_ | refine aV ?_)
   refine bY _ ⟨⟨_,rfl,bB Tryz.isAgg140 Tryz.sizeOf140 bN rfl⟩,trivial⟩ ?_
   exact ⟨⟨⟨69,0,[],[],[],0,0,nS,[],nS,[],nS,[],.slice A5 4 c5,j5 ([69,82,82,79,82]:List UInt8) c t⟩,rfl,AK (eG.ext aM (fun q hq z=>by have:=gZ q hq;have:=aj lQ;omega)).rd,rfl,fun z hz=>by have:=gZ z (EO hz);have:=IH.size;omega⟩,⟨_,(fun q hq=>hq),kk.1,rfl,kk.2⟩,EP⟩
end
section
variable {h h':ah} {A:Ad} {st:Int} {sk ov:Bool} {cnt:Int} {L:List (List UInt8 × gR)} {P:List (List UInt8 × ez)}
theorem ct.ER {g:ah} {r:gj} {u:Value} (x:Ext No h g) (d:ct g A P r u h'):ct h A P r u h':=by
 obtain ⟨v,B,c,e,O,p,L',P',k,e1,e2,t⟩:=d
 exact ⟨v,B,c,e,O.mono x.size,p,L',P',k,e1,e2,(Tn.no x).trans t⟩
def Gz (Φ:Value→Value→ah→Prop) (u:Value) (h':ah):Prop:=∃ v e,u=.tuple ⟨[v,e]⟩∧Φ v e h'
abbrev nI (F:Nat) (h:ah) (u:Value) (f:Fm) (Φ:Value→Value→ah→Prop):Prop:=∀ g,Ext No h g→ag Tryz.prog F ⟨[u,.agg ⟨f.cells⟩]⟩ g (Gz Φ)
theorem vV {u:Value} {f:Fm} {Φ:Value→Value→ah→Prop} (hf:f.ok h)
   (hk:(f.kind=80∧nI 146 h u f Φ)∨(f.kind=66∧nI 147 h u f Φ)∨(f.kind=68∧nI 148 h u f Φ)∨(f.kind=69∧nI 149 h u f Φ) ∨
     (f.kind=67∧nI 150 h u f Φ)∨(f.kind=81∧nI 151 h u f Φ) ∨
     ((f.kind ≠ 80∧f.kind ≠ 66∧f.kind ≠ 68∧f.kind ≠ 69∧f.kind ≠ 67∧f.kind ≠ 81)∧∀ g,Ext No h g→Φ (.slice none 0 0) .nilIface g)) :
   ag Tryz.prog 101 ⟨[u,.agg ⟨f.cells⟩]⟩ h (Gz Φ):=by
 obtain ⟨⟨e1,_⟩,⟨e2,_⟩,⟨e3,_⟩,e4,_⟩:=hf
 obtain ⟨fk,w,n,p,t,vo,o,vf,fs,vs,rs,vp,ps,mx⟩:=f
 dsimp only at e1 e2 e3 e4 hk
 obtain ⟨_,_,rfl,_⟩:=e1
 obtain ⟨_,_,rfl,_⟩:=e2
 obtain ⟨_,_,rfl,_⟩:=e3
 obtain ⟨_,_,rfl,_⟩:=e4
 unfold nI at hk
 dsimp only [Fm.cells] at hk ⊢
 rcases hk with ⟨rfl,kp⟩ | ⟨rfl,kp⟩ | ⟨rfl,kp⟩ | ⟨rfl,kp⟩ | ⟨rfl,kp⟩ | ⟨rfl,kp⟩ | ⟨⟨n1,n2,n3,n4,n5,n6⟩,kp⟩
 all_goals
   refine calls [(0,_),(1,_)] Tryz.func101 rfl Tryz.ntmps101 rfl ⟨rfl,rfl,trivial⟩ ?_
   all_goals (refine WC.sr ?_;refine WL.ai (aB rfl) rfl rfl rfl ?_;rintro _ h1 ⟨b3,rfl,bO,aQ,ay⟩;refine Go ?_;refine G3 ?_;refine WL.ld rfl (by first | exact aa aQ rfl | assumption) rfl rfl rfl ?_;refine Gn ?_;refine Gs [(0,_),(3,_),(7,_)] ?_;refine WC.block ?_;refine G2 ?_;refine aJ 1 2 ?_ TT.mk)
   all_goals try (
   refine ax 1 ?_
   all_goals (refine G2 ?_;refine WL.step (an Tryz.isAgg42 Tryz.sizeOf42 rfl rfl (by exact At.au aQ)) rfl rfl rfl ?_;refine WL.call (vs:=[_,_]) rfl Tryz.call146 rfl (kp _ ay) rfl rfl rfl ?_;rintro _ h2 ⟨v,e,rfl,D⟩;refine Go ?_;refine Gs [(4,_),(5,_)] ?_;refine Gt ?_;first | exact ⟨v,e,rfl,D⟩ | exact ⟨_,_,rfl,kp _ ay⟩ | (exfalso;omega))
   skip)
   all_goals (refine ax 2 ?_;refine G2 ?_;refine aJ 3 4 ?_ TT.mk)
   all_goals try (
   refine ax 3 ?_
   all_goals (refine G2 ?_;refine WL.step (an Tryz.isAgg42 Tryz.sizeOf42 rfl rfl (by exact At.au aQ)) rfl rfl rfl ?_;refine WL.call (vs:=[_,_]) rfl Tryz.call147 rfl (kp _ ay) rfl rfl rfl ?_;rintro _ h2 ⟨v,e,rfl,D⟩;refine Go ?_;refine Gs [(4,_),(5,_)] ?_;refine Gt ?_;first | exact ⟨v,e,rfl,D⟩ | exact ⟨_,_,rfl,kp _ ay⟩ | (exfalso;omega))
   skip)
   all_goals (refine ax 4 ?_;refine G2 ?_;refine Gs [(0,_),(3,_),(7,_),(22,_)] ?_;refine aJ 5 6 ?_ TT.mk)
   all_goals try (
   refine ax 5 ?_
   all_goals (refine G2 ?_;refine WL.step (an Tryz.isAgg42 Tryz.sizeOf42 rfl rfl (by exact At.au aQ)) rfl rfl rfl ?_;refine WL.call (vs:=[_,_]) rfl Tryz.call148 rfl (kp _ ay) rfl rfl rfl ?_;rintro _ h2 ⟨v,e,rfl,D⟩;refine Go ?_;refine Gs [(4,_),(5,_)] ?_;refine Gt ?_;first | exact ⟨v,e,rfl,D⟩ | exact ⟨_,_,rfl,kp _ ay⟩ | (exfalso;omega))
   skip)
   all_goals (refine ax 6 ?_;refine G2 ?_;refine aJ 7 8 ?_ TT.mk)
   all_goals try (
   refine ax 7 ?_
   all_goals (refine G2 ?_;refine WL.step (an Tryz.isAgg42 Tryz.sizeOf42 rfl rfl (by exact At.au aQ)) rfl rfl rfl ?_;refine WL.call (vs:=[_,_]) rfl Tryz.call149 rfl (kp _ ay) rfl rfl rfl ?_;rintro _ h2 ⟨v,e,rfl,D⟩;refine Go ?_;refine Gs [(4,_),(5,_)] ?_;refine Gt ?_;first | exact ⟨v,e,rfl,D⟩ | exact ⟨_,_,rfl,kp _ ay⟩ | (exfalso;omega))
   skip)
   all_goals (refine ax 8 ?_;refine G2 ?_;refine Gs [(0,_),(3,_),(7,_),(36,_)] ?_;refine aJ 9 10 ?_ TT.mk)
   all_goals try (
   refine ax 9 ?_
   all_goals (refine G2 ?_;refine WL.step (an Tryz.isAgg42 Tryz.sizeOf42 rfl rfl (by exact At.au aQ)) rfl rfl rfl ?_;refine WL.call (vs:=[_,_]) rfl Tryz.call150 rfl (kp _ ay) rfl rfl rfl ?_;rintro _ h2 ⟨v,e,rfl,D⟩;refine Go ?_;refine Gs [(4,_),(5,_)] ?_;refine Gt ?_;first | exact ⟨v,e,rfl,D⟩ | exact ⟨_,_,rfl,kp _ ay⟩ | (exfalso;omega))
   skip)
   all_goals (refine ax 10 ?_;refine G2 ?_;refine aJ 11 12 ?_ TT.mk)
   all_goals try (
   refine ax 11 ?_
   all_goals (refine G2 ?_;refine WL.step (an Tryz.isAgg42 Tryz.sizeOf42 rfl rfl (by exact At.au aQ)) rfl rfl rfl ?_;refine WL.call (vs:=[_,_]) rfl Tryz.call151 rfl (kp _ ay) rfl rfl rfl ?_;rintro _ h2 ⟨v,e,rfl,D⟩;refine Go ?_;refine Gs [(4,_),(5,_)] ?_;refine Gt ?_;first | exact ⟨v,e,rfl,D⟩ | exact ⟨_,_,rfl,kp _ ay⟩ | (exfalso;omega))
   skip)
   all_goals (refine ax 12 ?_;refine WC.skip ?_;refine Gn ?_;refine Gs [] ?_;refine G2 ?_;refine Gt ?_;first | exact ⟨v,e,rfl,D⟩ | exact ⟨_,_,rfl,kp _ ay⟩ | (exfalso;omega))
theorem ct.two {g:ah} {r:gj} {u:Value} (x:Ext No h g) (d:ct g A P r u h'):Gz (fun v e h'=>ct h A P r (.tuple ⟨[v,e]⟩) h') u h':=by
 obtain ⟨v,B,c,rfl,d⟩:=d
 exact ⟨v,_,rfl,ct.ER x ⟨v,B,c,rfl,d⟩⟩
theorem GA (k:Ss h A st sk ov cnt L P) (lm:jB (cw st sk ov cnt L P)) (f:Fm) (hf:f.ok h) (hF:∀ q,f.F q→¬ Mu A P q) (fl:gW f):ag Tryz.prog 101 ⟨[.pointer (some ⟨A.bs,0,none⟩),.agg ⟨f.cells⟩]⟩ h (Gz fun v e h'=>ct h A P (eC (cw st sk ov cnt L P) f.p) (.tuple ⟨[v,e]⟩) h'):=by
 have e0 : eC (cw st sk ov cnt L P) f.p = if f.kind = 80 then eL (cw st sk ov cnt L P) f.p else if f.kind = 66 then fT (cw st sk ov cnt L P) f.p else if f.kind = 68 then cA (cw st sk ov cnt L P) f.p else if f.kind = 69 then ck (cw st sk ov cnt L P) f.p
     else if f.kind=67 then gV (cw st sk ov cnt L P) f.p else if f.kind=81 then dz (cw st sk ov cnt L P) f.p else (cw st sk ov cnt L P,[],none):=rfl
 rw [e0]
 refine vV hf ?_
 by_cases e1:f.kind=80
 · exact .inl ⟨e1,fun g x=>by rw [if_pos e1];exact (C7 (k.aq x) f (hf.aq x) hF fl).mono fun _ _ d=>d.two x⟩
 refine .inr ?_
 rw [if_neg e1]
 by_cases e2:f.kind=66
 · exact .inl ⟨e2,fun g x=>by rw [if_pos e2];exact (Gb (k.aq x) lm f (hf.aq x) hF fl).mono fun _ _ d=>d.two x⟩
 refine .inr ?_
 rw [if_neg e2]
 by_cases e3:f.kind=68
 · exact .inl ⟨e3,fun g x=>by rw [if_pos e3];exact (uw (k.aq x) lm f (hf.aq x) fl).mono fun _ _ d=>d.two x⟩
 refine .inr ?_
 rw [if_neg e3]
 by_cases e4:f.kind=69
 · exact .inl ⟨e4,fun g x=>by rw [if_pos e4];exact (xC (k.aq x) lm f (hf.aq x) fl).mono fun _ _ d=>d.two x⟩
 refine .inr ?_
 rw [if_neg e4]
 by_cases e5:f.kind=67
 · exact .inl ⟨e5,fun g x=>by rw [if_pos e5];exact (Gh (k.aq x) f (hf.aq x)).mono fun _ _ d=>d.two x⟩
 refine .inr ?_
 rw [if_neg e5]
 by_cases e6:f.kind=81
 · exact .inl ⟨e6,fun g x=>by rw [if_pos e6];exact (vS (k.aq x) lm f (hf.aq x) fl).mono fun _ _ d=>d.LK.two x⟩
 refine .inr ⟨⟨e1,e2,e3,e4,e5,e6⟩,fun g x=>?_⟩
 rw [if_neg e6]
 exact ct.ER x ⟨_,[],fun e=>absurd rfl e,rfl,cB.nil _ _,rfl,.of (k.aq x) (Tn.no (.refl _ _))⟩
theorem GB (k:Ss h A st sk ov cnt L P) (lm:jB (cw st sk ov cnt L P)) (f:Fm) (hf:f.ok h) (fl:gW f) (e6:f.kind=81):ag Tryz.prog 101 ⟨[.pointer (some ⟨A.bs,0,none⟩),.agg ⟨f.cells⟩]⟩ h (Gz fun v e h'=>fi h A L P (dz (cw st sk ov cnt L P) f.p) (.tuple ⟨[v,e]⟩) h') :=
 vV hf (.inr (.inr (.inr (.inr (.inr (.inl ⟨e6,fun g x=>(vS (k.aq x) lm f (hf.aq x) fl).mono fun _ _ d=>by
   obtain ⟨v,B,c,rfl,d⟩:=d
   exact ⟨v,_,rfl,fi.trans (Tn.no x) (fun _ h=>h) (fun _ h=>h) ⟨v,B,c,rfl,d⟩⟩⟩))))))
end
structure nJ (f:gF):Prop where
 t:f.text.length≤100000
 o:f.oids.length≤20000
 m:f.params.length≤100000
structure dV (n:Nat) (s:SP):Prop where
 l:∀ q∈s.L,q.2.1.length≤100000∧q.2.2.length≤20000
 p:∀ q∈s.P,q.2.1.length≤100000∧q.2.2.1.length≤20000∧q.2.2.2.1.length≤100000∧jP q.2.2.2.2.1
 c:0≤s.cnt∧s.cnt≤n
 k:s.L.length≤n
theorem dV.KN {n:Nat} {s:SP} (k:dV n s) (hn:n < 1000000):jB s:=⟨fun q hq=>(k.l q hq).1,fun q hq=>k.p q hq,by have:=k.c;omega⟩
theorem dV.mono {n m:Nat} {s:SP} (k:dV n s) (h:n≤m):dV m s:=⟨k.l,k.p,by have:=k.c;omega,by have:=k.k;omega⟩
theorem AM {κ α:Type} [DecidableEq κ] (E:List (κ × α)) (n:κ):(cj E n).length≤E.length:=by unfold cj;exact List.length_filter_le _ _
theorem AN {κ α:Type} [DecidableEq κ] (E:List (κ × α)) (n:κ) (v:α):(cx E n v).length≤E.length+1:=by
 unfold cx
 split
 · rw [List.length_map];omega
 · simp
section
variable {n:Nat} {s:SP}
theorem dV.uD (k:dV n s) (x:List UInt8):dV n { s with L:=cj s.L x }:=⟨fun q hq=>k.l q (cC hq).1,k.p,k.c,Nat.le_trans (AM _ _) k.k⟩
theorem dV.sy (k:dV n s) (x:List UInt8):dV n { s with P:=cj s.P x }:=⟨k.l,fun q hq=>k.p q (cC hq).1,k.c,k.k⟩
theorem dV.GC (k:dV n s) (x:List UInt8) (v:F4) (h1:v.1.length≤100000) (h2:v.2.length≤20000):dV (n+1) { s with L:=cx s.L x v } :=
 ⟨fun q hq=>by
   rcases cy hq with rfl | ⟨hq,_⟩
   · exact ⟨h1,h2⟩
   · exact k.l q hq,k.p,⟨k.c.1,by have:=k.c;show s.cnt≤_;omega⟩,Nat.le_trans (AN _ _ _) (by have:=k.k;omega)⟩
theorem dV.lM (k:dV n s) (x:List UInt8) (v:F5) (h:v.1.length≤100000∧v.2.1.length≤20000∧v.2.2.1.length≤100000∧jP v.2.2.2.1):dV n { s with P:=cx s.P x v } :=
 ⟨k.l,fun q hq=>by
   rcases cy hq with rfl | ⟨hq,_⟩
   · exact h
   · exact k.p q hq,k.c,k.k⟩
theorem dV.of (k:dV n s) {s':SP} (h1:s'.L=s.L) (h2:s'.P=s.P∨s'.P=[]) (h3:s'.cnt=s.cnt):dV n s' :=
 ⟨h1▸k.l,by rcases h2 with e | e <;> rw [e];exact k.p;exact (fun _ h=>nomatch h),h3▸k.c,h1▸k.k⟩
theorem dx {κ α:Type} [DecidableEq κ] {E:List (κ × α)} {n:κ} {v:α} (h:bJ E n=some v):(n,v)∈E:=ca h
theorem o9:jP []:=⟨Nat.zero_le _,(fun _ h=>nomatch h)⟩
theorem kY (v:gi) (ps:List eK) (c:Int):c≤(dc v ps c).2∧(dc v ps c).2≤c+1:=by
 unfold dc
 split
 · exact ⟨Int.le_refl _,by dsimp only;omega⟩
 · split
   · exact ⟨Int.le_refl _,by dsimp only;omega⟩
   · split
     · exact ⟨by dsimp only;omega,Int.le_refl _⟩
     · exact ⟨Int.le_refl _,by dsimp only;omega⟩
theorem xF {rs:List (List eK)} (ov:Bool) (m:Int) (h:jP rs):jP (dP rs ov m).2.1:=by
 unfold dP
 split
 · exact h
 · exact ⟨by simp only [List.length_drop];have:=h.1;omega,fun r hr=>h.2 r (List.mem_of_mem_drop hr)⟩
theorem uE (k:dV n s) (f:gF) (ff:nJ f):dV (n+1) (eL s f).1:=by
 have k1:dV n (if f.name=[] then { s with L:=cj s.L [] } else s):=by
   split
   · exact k.uD _
   · exact k
 unfold eL
 dsimp only
 generalize (if f.name=[] then { s with L:=cj s.L [] } else s)=s1 at k1 ⊢
 split
 · exact k1.mono (by omega)
 · split
   · exact k1.mono (by omega)
   · exact k1.GC _ _ ff.t ff.o
theorem xG (k:dV n s) (f:gF) (ff:nJ f):dV (n+1) (fT s f).1:=by
 unfold fT
 split
 · exact k.mono (by omega)
 · split
   · exact k.mono (by omega)
   · rename_i t ht
     have hm:=k.l _ (dx ht)
     split
     · exact k.mono (by omega)
     · split
       · exact k.mono (by omega)
       · exact (k.lM _ _ ⟨hm.1,hm.2,ff.m,o9⟩).mono (by omega)
theorem ou (k:dV n s) (f:gF):dV (n+1) (cA s f).1:=by
 have e:(cA s f).1=s:=by
   unfold cA
   split <;> split <;> (try split) <;> rfl
 rw [e]
 exact k.mono (by omega)
theorem pa (k:dV n s) (v:gi):dV n (cK s v).1:=by
 unfold cK
 split
 · exact k
 · split
   · exact k
   · refine k.of rfl ?_ rfl
     dsimp only
     split
     · exact .inr rfl
     · exact .inl rfl
theorem qp (k:dV n s) (f:gF):dV (n+1) (ck s f).1:=by
 unfold ck
 split
 · exact k.mono (by omega)
 · split
   · exact k.mono (by omega)
   · rename_i t o ps rs ran ov hg
     have hm:=k.p _ (dx hg)
     dsimp only at hm
     have hc:=k.c
     split
     · have hrs : jP (if ran = true then (rs, s.cnt) else dc (bj t) ps s.cnt).1 ∧ s.cnt ≤ (if ran = true then (rs, s.cnt) else dc (bj t) ps s.cnt).2 ∧ (if ran = true then (rs, s.cnt) else dc (bj t) ps s.cnt).2 ≤ s.cnt + 1 := by
         split
         · exact ⟨hm.2.2.2,Int.le_refl _,by dsimp only;omega⟩
         · exact ⟨gX _ _ hm.2.2.1,kY _ _ _⟩
       dsimp only
       generalize (if ran=true then (rs,s.cnt) else dc (bj t) ps s.cnt)=rc at hrs ⊢
       have k1:dV (n+1) { s with cnt:=rc.2 }:=⟨k.l,k.p,by dsimp only;omega,by have:=k.k;dsimp only;omega⟩
       exact k1.lM _ _ ⟨hm.1,hm.2.1,hm.2.2.1,xF _ _ hrs.1⟩
     · split
       · exact k.mono (by omega)
       · have kt:=pa k (bj t)
         split
         · rename_i s1 out he
           rw [he] at kt
           dsimp only at kt ⊢
           split
           · exact kt.mono (by omega)
           · exact (kt.lM _ _ ⟨hm.1,hm.2.1,hm.2.2.1,o9⟩).mono (by omega)
         · exact kt.mono (by omega)
theorem xH (k:dV n s) (f:gF):dV (n+1) (gV s f).1:=by
 unfold gV
 split
 · exact (k.uD _).mono (by omega)
 · exact (k.sy _).mono (by omega)
theorem uF (k:dV n s) (f:gF):dV (n+1) (dz s f).1:=by
 have k1:dV n { s with L:=cj s.L [],P:=cj s.P [] }:=(k.uD []).sy []
 have k2:dV (n+1) { s with L:=cj s.L [],P:=cj s.P [],cnt:=(dc (bj f.text) [] s.cnt).2 }:=⟨k1.l,k1.p,by have:=kY (bj f.text) [] s.cnt;have hc:=k.c;dsimp only;omega,by have:=k1.k;dsimp only at this ⊢;omega⟩
 unfold dz
 dsimp only
 split
 · exact k1.mono (by omega)
 · split
   · exact k2
   · exact (pa k1 _).mono (by omega)
theorem xI (k:dV n s) (f:gF) (ff:nJ f):dV (n+1) (eC s f).1:=by
 unfold eC
 split
 · exact uE k f ff
 · split
   · exact xG k f ff
   · split
     · exact ou k f
     · split
       · exact qp k f
       · split
         · exact xH k f
         · split
           · exact uF k f
           · exact k.mono (by omega)
theorem lT (k:dV n s):dV n (ep s).1:=by
 refine k.of rfl ?_ rfl
 unfold ep
 dsimp only
 split
 · exact .inr rfl
 · exact .inl rfl
theorem sA (k:dV n s) (c t:List UInt8):dV n (ix s c t).1:=by
 refine k.of rfl ?_ rfl
 unfold ix
 dsimp only
 split
 · exact .inr rfl
 · exact .inl rfl
theorem xJ (f:gF) {r:gj} (k:dV n r.1):dV n (fU f r).1:=by
 unfold fU
 rcases he:r.2.2 with _ | ⟨c,t⟩
 · dsimp only
   split
   · exact lT k
   · exact k
 · dsimp only
   have kf:dV n (ix { r.1 with sk:=decide (f.kind ≠ 81) } c t).1:=sA (s:={ r.1 with sk:=decide (f.kind ≠ 81) }) (k.of rfl (.inl rfl) rfl) c t
   split
   · exact lT kf
   · exact kf
theorem Ds (k:dV n s) (f:gF) (ff:nJ f):dV (n+1) (iy s f).1:=by
 have km:dV (n+1) s:=k.mono (by omega)
 unfold iy
 split
 · exact km
 · split
   · exact km.of rfl (.inl rfl) rfl
   · split
     · exact lT (km.of rfl (.inl rfl) rfl)
     · split
       · exact km
       · exact xJ f (xI k f ff)
end
theorem jw (a b:List UInt8):aZ (a++b)=(aZ a && aZ b):=by
 unfold aZ
 rw [List.contains_eq_any_beq,List.any_append,List.contains_eq_any_beq,List.contains_eq_any_beq,Bool.not_or]
theorem uG (m:Nat):aZ (db m)=true:=by
 induction m using Nat.strongRecOn with
 | _ m ih =>
   have hd:∀ k,k < 10→aZ [UInt8.ofNat (48+k)]=true:=by decide
   by_cases h:m < 10
   · rw [mR h]
     exact hd m h
   · rw [qf h,show (UInt8.ofNat (48+m % 10) :: db (m / 10))=[UInt8.ofNat (48+m % 10)]++db (m / 10) from rfl,jw,hd _ (by omega),ih (m / 10) (by omega)]
     rfl
theorem pc (m:Nat):aZ (x7 m)=true:=by
 have:=uG m
 unfold aZ x7 at *
 rw [List.contains_eq_any_beq] at *
 rwa [List.any_reverse]
theorem uH (n:Int):aZ (dw n)=true:=by
 unfold dw
 split
 · rw [show (45 :: x7 n.natAbs)=[45]++x7 n.natAbs from rfl,jw,pc]
   rfl
 · exact pc _
section
variable (N M:Nat) (G:Prop)
def AO (o:List Int):Prop:=o.length≤N∧(G→∀ n∈o,0≤n∧n≤4294967295)
def eO (ps:List eK):Prop:=ps.length≤N∧∀ c∈ps,c.2.length≤M∧(G→c.1=true→c.2.length=0)
structure Inv (s:SP):Prop where
 l:∀ q∈s.L,AO N G q.2.2
 p:∀ q∈s.P,AO N G q.2.2.1∧eO N M G q.2.2.2.1∧∀ r∈q.2.2.2.2.1,eO N M G r
 c:0≤s.cnt∧s.cnt≤1000000
def gY (x:iw):Prop:=x.kind=69∨(∃ k,x={ kind:=k }∧(k=49∨k=50∨k=51∨k=73∨k=110∨k=115))∨(∃ t,x={ kind:=67,tag:=t }∧aZ t=true∧t.length≤1000)∨(∃ o,x={ kind:=116,oids:=o }∧AO N G o)∨(∃ r,x={ kind:=68,row:=r }∧eO N M G r)∨(∃ n:Int,x=oW n∧n≤max N 1)
end
section
variable {N M:Nat} {G:Prop} {s:SP}
theorem gY.plain {k:Int} (h:k=49∨k=50∨k=51∨k=73∨k=110∨k=115):∀ x∈[({ kind:=k }:iw)],gY N M G x:=fun x hx=>by
 obtain rfl:=List.mem_singleton.1 hx
 exact .inr (.inl ⟨k,rfl,h⟩)
theorem Inv.uD (k:Inv N M G s) (x:List UInt8):Inv N M G { s with L:=cj s.L x }:=⟨fun q hq=>k.l q (cC hq).1,k.p,k.c⟩
theorem Inv.sy (k:Inv N M G s) (x:List UInt8):Inv N M G { s with P:=cj s.P x }:=⟨k.l,fun q hq=>k.p q (cC hq).1,k.c⟩
theorem Inv.GC (k:Inv N M G s) (x:List UInt8) (v:F4) (h:AO N G v.2):Inv N M G { s with L:=cx s.L x v } :=
 ⟨fun q hq=>by
   rcases cy hq with rfl | ⟨hq,_⟩
   · exact h
   · exact k.l q hq,k.p,k.c⟩
theorem Inv.lM (k:Inv N M G s) (x:List UInt8) (v:F5) (h:AO N G v.2.1∧eO N M G v.2.2.1∧∀ r∈v.2.2.2.1,eO N M G r):Inv N M G { s with P:=cx s.P x v } :=
 ⟨k.l,fun q hq=>by
   rcases cy hq with rfl | ⟨hq,_⟩
   · exact h
   · exact k.p q hq,k.c⟩
theorem Inv.of (k:Inv N M G s) {s':SP} (h1:s'.L=s.L) (h2:s'.P=s.P∨s'.P=[]) (h3:s'.cnt=s.cnt):Inv N M G s' :=
 ⟨h1▸k.l,by rcases h2 with e | e <;> rw [e];exact k.p;exact (fun _ h=>nomatch h),h3▸k.c⟩
theorem vW {n:Int} (hN:1≤N) (hM:100≤M) (hn:0≤n∧n≤1000001):eO N M G [(false,dw n)]:=⟨hN,fun c hc=>by
 obtain rfl:=List.mem_singleton.1 hc
 exact ⟨by have:=dt n (by omega);show (dw n).length≤M;omega,fun _ e=>by cases e⟩⟩
theorem pd (v:gi) {ps:List eK} {c:Int} (hN:1≤N) (hM:100≤M) (hc:0≤c∧c≤1000000) (h:eO N M G ps):∀ r∈(dc v ps c).1,eO N M G r:=by
 unfold dc
 split
 · intro r hr
   obtain ⟨i,hi,rfl⟩:=List.mem_map.1 hr
   have:=jv v.n
   have:=List.mem_range.1 hi
   exact vW hN hM (by omega)
 · split
   · intro r hr
     obtain rfl:=List.mem_singleton.1 hr
     exact h
   · split
     · intro r hr
       obtain rfl:=List.mem_singleton.1 hr
       exact vW hN hM (by omega)
     · exact fun _ h=>nomatch h
theorem Dt {n:Nat} (h:n≤100000):aZ (xx n)=true∧(xx n).length≤1000:=by
 unfold xx
 have:=dt (n:Int) (by omega)
 exact ⟨by rw [jw,uH];rfl,by rw [List.length_append];simp;omega⟩
theorem mm {rs:List (List eK)} (more:Bool) (hl:rs.length≤100000) (h:∀ r∈rs,eO N M G r):∀ x∈cU rs more,gY N M G x:=fun x hx=>by
 unfold cU at hx
 rcases List.mem_append.1 hx with hx | hx
 · obtain ⟨r,hr,rfl⟩:=List.mem_map.1 hx
   exact .inr (.inr (.inr (.inr (.inl ⟨r,rfl,h r hr⟩))))
 · obtain rfl:=List.mem_singleton.1 hx
   split
   · exact .inr (.inl ⟨115,rfl,by omega⟩)
   · exact .inr (.inr (.inl ⟨_,rfl,Dt hl⟩))
theorem vX (v:gi) {o:List Int} (h:AO N G o):oo v o.length≤max N 1:=by
 unfold oo
 have:=h.1
 split
 · omega
 · split <;> omega
theorem nK (t:F4) (h:AO N G t.2):gY N M G (jd t):=by
 unfold jd
 split
 · exact .inr (.inr (.inr (.inr (.inr ⟨_,rfl,vX _ h⟩))))
 · exact .inr (.inl ⟨110,rfl,by omega⟩)
theorem xK (st:Int) (v:gi):aZ (fq st v).2=true∧(fq st v).2.length≤1000:=by
 unfold fq
 split
 · unfold r5
   split <;> exact ⟨rfl,Nat.le_of_ble_eq_true rfl⟩
 · split <;> exact ⟨rfl,Nat.le_of_ble_eq_true rfl⟩
theorem pf (k:Inv N M G s) (v:gi):Inv N M G (cK s v).1∧∀ x∈(cK s v).2.1,gY N M G x:=by
 unfold cK
 split
 · exact ⟨k,gY.plain (by omega)⟩
 · split
   · exact ⟨k,fun _ h=>nomatch h⟩
   · refine ⟨k.of rfl ?_ rfl,fun x hx=>?_⟩
     · dsimp only
       split
       · exact .inr rfl
       · exact .inl rfl
     · obtain rfl:=List.mem_singleton.1 hx
       exact .inr (.inr (.inl ⟨_,rfl,xK _ _⟩))
theorem uI (k:Inv N M G s) (f:gF) (hq:AO N G f.oids):Inv N M G (eL s f).1∧∀ x∈(eL s f).2.1,gY N M G x:=by
 have k1:Inv N M G (if f.name=[] then { s with L:=cj s.L [] } else s):=by
   split
   · exact k.uD _
   · exact k
 unfold eL
 dsimp only
 generalize (if f.name=[] then { s with L:=cj s.L [] } else s)=s1 at k1 ⊢
 split
 · exact ⟨k1,fun _ h=>nomatch h⟩
 · split
   · exact ⟨k1,fun _ h=>nomatch h⟩
   · exact ⟨k1.GC _ _ hq,gY.plain (by omega)⟩
theorem xL (k:Inv N M G s) (f:gF) (hr:eO N M G f.params):Inv N M G (fT s f).1∧∀ x∈(fT s f).2.1,gY N M G x:=by
 unfold fT
 split
 · exact ⟨k,fun _ h=>nomatch h⟩
 · split
   · exact ⟨k,fun _ h=>nomatch h⟩
   · rename_i t ht
     have hm:=k.l _ (dx ht)
     split
     · exact ⟨k,fun _ h=>nomatch h⟩
     · split
       · exact ⟨k,fun _ h=>nomatch h⟩
       · exact ⟨k.lM _ _ ⟨hm,hr,fun _ h=>nomatch h⟩,gY.plain (by omega)⟩
theorem ow (k:Inv N M G s) (f:gF):Inv N M G (cA s f).1∧∀ x∈(cA s f).2.1,gY N M G x:=by
 unfold cA
 split
 · split
   · exact ⟨k,fun _ h=>nomatch h⟩
   · split
     · exact ⟨k,fun _ h=>nomatch h⟩
     · rename_i t ht
       have hm:=k.l _ (dx ht)
       refine ⟨k,fun x hx=>?_⟩
       rcases List.mem_cons.1 hx with rfl | hx
       · exact .inr (.inr (.inr (.inl ⟨_,rfl,hm⟩)))
       · obtain rfl:=List.mem_singleton.1 hx
         exact nK _ hm
 · split
   · exact ⟨k,fun _ h=>nomatch h⟩
   · split
     · exact ⟨k,fun _ h=>nomatch h⟩
     · rename_i t ht
       have hm:=k.p _ (dx ht)
       refine ⟨k,fun x hx=>?_⟩
       obtain rfl:=List.mem_singleton.1 hx
       exact nK _ hm.1
theorem Du {rs:List (List eK)} (ov:Bool) (m:Int) (hl:rs.length≤100000) (h:∀ r∈rs,eO N M G r):((dP rs ov m).1.length≤100000∧∀ r∈(dP rs ov m).1,eO N M G r)∧∀ r∈(dP rs ov m).2.1,eO N M G r:=by
 unfold dP
 split
 · exact ⟨⟨Nat.zero_le _,fun _ h=>nomatch h⟩,h⟩
 · exact ⟨⟨by dsimp only;rw [List.length_take];omega,fun r hr=>h r (List.mem_of_mem_take hr)⟩,fun r hr=>h r (List.mem_of_mem_drop hr)⟩
theorem qu (k:Inv N M G s) {n:Nat} (lm:dV n s) (hn:n < 1000000) (hN:1≤N) (hM:100≤M) (f:gF):Inv N M G (ck s f).1∧∀ x∈(ck s f).2.1,gY N M G x:=by
 unfold ck
 split
 · exact ⟨k,fun _ h=>nomatch h⟩
 · split
   · exact ⟨k,fun _ h=>nomatch h⟩
   · rename_i t o ps rs ran ov hg
     have hm:=k.p _ (dx hg)
     have hl:=lm.p _ (dx hg)
     have hc:=lm.c
     dsimp only at hm hl
     split
     · have hrs : (∀ r ∈ (if ran = true then (rs, s.cnt) else dc (bj t) ps s.cnt).1, eO N M G r) ∧ (if ran = true then (rs, s.cnt) else dc (bj t) ps s.cnt).1.length ≤ 100000 ∧ s.cnt ≤ (if ran = true then (rs, s.cnt) else dc (bj t) ps s.cnt).2 ∧ (if ran = true then (rs, s.cnt) else dc (bj t) ps s.cnt).2 ≤ s.cnt + 1 := by
         split
         · exact ⟨hm.2.2,hl.2.2.2.1,Int.le_refl _,by dsimp only;omega⟩
         · exact ⟨pd _ hN hM (by omega) hm.2.1,(gX _ _ hl.2.2.1).1,kY _ _ _⟩
       dsimp only
       generalize (if ran=true then (rs,s.cnt) else dc (bj t) ps s.cnt)=rc at hrs ⊢
       have k1:Inv N M G { s with cnt:=rc.2 }:=⟨k.l,k.p,by dsimp only;omega⟩
       have hf:=Du ov f.max hrs.2.1 hrs.1
       exact ⟨k1.lM _ _ ⟨hm.1,hm.2.1,hf.2⟩,mm _ hf.1.1 hf.1.2⟩
     · split
       · exact ⟨k,fun _ h=>nomatch h⟩
       · have kt:=pf k (bj t)
         split
         · rename_i s1 out he
           rw [he] at kt
           dsimp only at kt ⊢
           refine ⟨?_,kt.2⟩
           split
           · exact kt.1
           · exact kt.1.lM _ _ ⟨hm.1,hm.2.1,fun _ h=>nomatch h⟩
         · exact kt
theorem xM (k:Inv N M G s) (f:gF):Inv N M G (gV s f).1∧∀ x∈(gV s f).2.1,gY N M G x:=by
 unfold gV
 split
 · exact ⟨k.uD _,gY.plain (by omega)⟩
 · exact ⟨k.sy _,gY.plain (by omega)⟩
theorem uJ (k:Inv N M G s) {n:Nat} (lm:dV n s) (hn:n < 1000000) (hN:1≤N) (hM:100≤M) (f:gF):Inv N M G (dz s f).1∧∀ x∈(dz s f).2.1,gY N M G x:=by
 have hc:=lm.c
 have k1:Inv N M G { s with L:=cj s.L [],P:=cj s.P [] }:=(k.uD []).sy []
 have h0:eO N M G ([]:List eK):=⟨Nat.zero_le _,fun _ h=>nomatch h⟩
 have he:=kY (bj f.text) [] s.cnt
 unfold dz
 dsimp only
 split
 · exact ⟨k1,fun _ h=>nomatch h⟩
 · split
   · refine ⟨⟨k1.l,k1.p,by dsimp only;omega⟩,fun x hx=>?_⟩
     rcases List.mem_cons.1 hx with rfl | hx
     · exact .inr (.inr (.inr (.inr (.inr ⟨_,rfl,vX (G:=G) (o:=[]) _ ⟨Nat.zero_le _,fun _ _ h=>nomatch h⟩⟩))))
     · exact mm _ (gX _ _ (Nat.zero_le _)).1 (pd _ hN hM (by omega) h0) x hx
   · exact pf k1 _
theorem xN (k:Inv N M G s) {n:Nat} (lm:dV n s) (hn:n < 1000000) (hN:1≤N) (hM:100≤M) (f:gF) (hq:AO N G f.oids) (hr:eO N M G f.params):Inv N M G (eC s f).1∧∀ x∈(eC s f).2.1,gY N M G x:=by
 unfold eC
 split
 · exact uI k f hq
 · split
   · exact xL k f hr
   · split
     · exact ow k f
     · split
       · exact qu k lm hn hN hM f
       · split
         · exact xM k f
         · split
           · exact uJ k lm hn hN hM f
           · exact ⟨k,fun _ h=>nomatch h⟩
theorem pg (k:Inv N M G s):Inv N M G (ep s).1:=by
 refine k.of rfl ?_ rfl
 unfold ep
 dsimp only
 split
 · exact .inr rfl
 · exact .inl rfl
def ES (s:SP) (f:gF):Bool := !s.ov && (decide (f.kind=83) || decide (f.kind=81) && !s.sk)
theorem Dv (k:Inv N M G s) {n:Nat} (lm:dV n s) (hn:n < 1000000) (hN:1≤N) (hM:100≤M) (f:gF) (hq:AO N G f.oids) (hr:eO N M G f.params) :
   Inv N M G (iy s f).1∧∃ l,(iy s f).2=l++(if ES s f=true then [{ kind:=90,status:=(iy s f).1.st }] else [])∧∀ x∈l,gY N M G x:=by
 unfold iy ES
 by_cases h1:s.ov=true
 · rw [if_pos h1]
   exact ⟨k,[],by simp [h1],fun _ h=>nomatch h⟩
 · rw [if_neg h1]
   have e1:s.ov=false:=by simpa using h1
   by_cases h2:f.kind=88
   · rw [if_pos h2]
     exact ⟨k.of rfl (.inl rfl) rfl,[],by simp [e1,h2],fun _ h=>nomatch h⟩
   · rw [if_neg h2]
     by_cases h3:f.kind=83
     · rw [if_pos h3]
       exact ⟨pg (k.of (s':={ s with sk:=false }) rfl (.inl rfl) rfl),[],by simp [e1,h3,ep],fun _ h=>nomatch h⟩
     · rw [if_neg h3]
       by_cases h4:s.sk=true
       · rw [if_pos h4]
         exact ⟨k,[],by simp [h4,h3],fun _ h=>nomatch h⟩
       · rw [if_neg h4]
         have e4:s.sk=false:=by simpa using h4
         have kd:=xN k lm hn hN hM f hq hr
         generalize eC s f=r at kd ⊢
         obtain ⟨s1,out,e⟩:=r
         dsimp only at kd
         obtain ⟨s2,o2,he,ki,ko⟩:∃ s2 o2,fU f (s1,out,e)=(if f.kind=81 then ((ep s2).1,o2++[(ep s2).2]) else (s2,o2))∧Inv N M G s2∧∀ x∈o2,gY N M G x:=by
           rcases e with _ | ⟨c,t⟩
           · exact ⟨s1,out,rfl,kd.1,kd.2⟩
           · refine ⟨_,_,rfl,kd.1.of rfl ?_ rfl,fun x hx=>?_⟩
             · dsimp only [ix]
               split
               · exact .inr rfl
               · exact .inl rfl
             · rcases List.mem_append.1 hx with hx | hx
               · exact kd.2 x hx
               · obtain rfl:=List.mem_singleton.1 hx
                 exact .inl rfl
         rw [he]
         by_cases h5:f.kind=81
         · rw [if_pos h5]
           exact ⟨pg ki,o2,by simp [e1,e4,h5,ep],ko⟩
         · rw [if_neg h5]
           exact ⟨ki,o2,by simp [h3,h5],ko⟩
end
def xO (p:iw):Bk:=⟨p.kind,p.status,p.tag,p.name,p.value,p.n,p.m,jX,p.oids,jX,p.cols,jX,p.row.map fun c=>⟨c.1,jX,c.2⟩,jX,p.fields⟩
theorem uK (p:iw):(xO p).p=p:=by
 unfold xO Bk.p
 dsimp only
 rw [List.map_map,show (aX.pl ∘ fun c:eK=>(⟨c.1,jX,c.2⟩:aX))=id from rfl,List.map_id]
theorem qw {φ:Bool→List UInt8→Prop} (l:List aX):(∀ c∈l,φ c.null c.bytes) ↔ ∀ c∈l.map aX.pl,φ c.1 c.2:=by simp [aX.pl]
theorem KO {a b:Bk} (e:a.p=b.p):(qU a).pl=(qU b).pl:=by
 obtain ⟨k,st,t,n,v,x,y,vo,lo,vc,lc,vr,lr,vf,lf⟩:=a
 obtain ⟨k',st',t',n',v',x',y',vo',lo',vc',lc',vr',lr',vf',lf'⟩:=b
 simp only [Bk.p,iw.mk.injEq] at e
 obtain ⟨rfl,rfl,rfl,rfl,rfl,rfl,rfl,rfl,rfl,er,rfl⟩:=e
 unfold qU
 dsimp only
 repeat' split
 all_goals first | rfl | simp only [Bk.pl,er]
theorem KP {a b:Bk} (e:a.p=b.p):a.pl=b.pl:=by
 simp only [Bk.p,iw.mk.injEq] at e
 simp only [Bk.pl,e]
theorem uM {a b:Bk} (e:a.p=b.p) (h:a.may):b.may:=by
 have e1:=KO e
 have e2:=KP e
 simp only [Bk.p,iw.mk.injEq] at e
 obtain ⟨h1,h2,h3,h4,h5,h6,h7,h8,h9,iD,x8,tQ⟩:=h
 obtain ⟨k1,k2,k3,k4,k5,k6,k7,k8,k9,o5,AA⟩:=e
 refine ⟨k1▸h1,k3▸h2,k4▸h3,k5▸h4,k9▸h5,AA▸h6,⟨?_,?_⟩,k8▸h8,k6▸h9,k7▸iD,?_,e1▸e2▸tQ⟩
 · have:=congrArg List.length o5
   simp only [List.length_map] at this
   have:=h7.1
   omega
 · have:=(qw (φ:=fun n l=>(n=true→l.length=0)∧l.length≤1048576) a.row).1 h7.2
   rw [o5] at this
   exact (qw (φ:=fun n l=>(n=true→l.length=0)∧l.length≤1048576) b.row).2 this
 · unfold Bk.kN at *
   rw [← k1,← k2]
   exact x8
theorem vY {a b:Bk} (e:a.p=b.p):ei a=ei b:=by
 obtain ⟨k,st,t,n,v,x,y,vo,lo,vc,lc,vr,lr,vf,lf⟩:=a
 obtain ⟨k',st',t',n',v',x',y',vo',lo',vc',lc',vr',lr',vf',lf'⟩:=b
 simp only [Bk.p,iw.mk.injEq] at e
 obtain ⟨rfl,rfl,rfl,rfl,rfl,rfl,rfl,rfl,rfl,er,rfl⟩:=e
 have hl:lr.length=lr'.length:=by have:=congrArg List.length er;simpa using this
 have hf:∀ l:List aX,l.flatMap dO=(l.map aX.pl).flatMap fun c=>if c.1 then be 4294967295 4 else be c.2.length 4++c.2:=fun l=>by rw [List.flatMap_map];rfl
 unfold ei
 dsimp only
 rw [hl,hf lr,hf lr',er]
open Classical in
noncomputable def jf (p:iw):List (Int × List UInt8):=if (xO p).may then [(p.kind,ei (xO p))] else []
def Kn (k:Int):Prop:=k=90∨k=67∨k=68∨k=84∨k=116∨k=69∨k=82∨k=75∨k=49∨k=50∨k=51∨k=110∨k=115∨k=73
structure iM (p:iw):Prop where
 kind:Kn p.kind
 status:0≤p.status∧p.status≤255
 codes:∀ f∈p.fields,0≤f.k∧f.k≤255
 oids:p.oids.length≤100
 cols:p.cols.length≤100
 row:p.row.length≤100
 fields:p.fields.length≤100
 names:∀ c∈p.cols,c.nm.length≤1000
 cells:∀ c∈p.row,c.2.length≤1000
 texts:∀ f∈p.fields,f.t.length≤200000
 tag:p.tag.length≤1000
 name:p.name.length≤1000
 value:p.value.length≤1000
theorem iM.of {b:Bk} {p:iw} (e:b.p=p) (k:iM p):b.EA∧b.wf∧Kn b.kind:=by
 subst e
 obtain ⟨h1,h2,h3,h4,h5,h6,h7,h8,h9,iD,x8,tQ,KG⟩:=k
 refine ⟨⟨h4,h5,by simpa [Bk.p] using h6,h7,h8,(qw (φ:=fun _ l=>l.length≤1000) b.row).2 h9,iD,x8,tQ,KG⟩,⟨?_,h2,h3⟩,h1⟩
 have:Kn b.kind:=h1
 unfold Kn at this
 omega
def LV (p:iw) (h:ah) (u:Value) (h':ah):Prop:=∃ (k:Int) (v:Value) (e:Int),u=.tuple ⟨[.agg ⟨[.int .u8 k,v]⟩,In e]⟩∧Ext No h h'∧((e ≠ 0∧jf p=[]∧v=jX)∨(e=0∧k=p.kind∧∃ l,jf p=[(p.kind,l)]∧Own h' v 5 1 l.length (bu l)∧∀ q,v.ownBlock=some q→h.size≤q))
theorem II {h:ah} (b:Bk) (hb:b.ok h) (hm:iM b.p):ag Tryz.prog 98 ⟨[.agg ⟨b.cells⟩]⟩ h (LV b.p h):=by
 obtain ⟨md,wf,kn⟩:=iM.of rfl hm
 have e:(xO b.p).p=b.p:=uK _
 by_cases hmay:b.may
 · have ho:jf b.p=[(b.kind,ei b)]:=by unfold jf;rw [if_pos (uM e.symm hmay),vY e];rfl
   exact (FR b hb wf md hmay (by unfold Kn at kn;omega)).mono fun u h' ⟨v',e1,e2,e3,e4⟩=>⟨_,_,_,e1,e3,.inr ⟨rfl,rfl,_,ho,e2,e4⟩⟩
 · have ho:jf b.p=[]:=by unfold jf;rw [if_neg fun z=>hmay (uM e z)]
   exact (zH b hb wf.kind md hmay).mono fun u h' ⟨e1,hne,eu,hx⟩=>⟨_,_,_,eu,hx,.inl ⟨hne,ho,rfl⟩⟩
end Go.Proofs.YtopgddfgefnmbaaGreatDoor
namespace Go.Proofs.YtopgddfgefnmbaaGreatDoor
open Go Go.RK
abbrev ET:=Int × Value × List UInt8
def GD (x:ET):List Value:=[.int .u8 x.1,x.2.1]
def ET.pl (x:ET):Int × List UInt8:=(x.1,x.2.2)
structure Sd (h:ah) (v:Value) (M:List ET):Prop where
 row:Own h v 53 2 M.length (M.flatMap GD)
 bod:∀ x∈M,Own h x.2.1 5 1 x.2.2.length (bu x.2.2)
theorem vZ {h:ah} {v:Value} {T:TypeId} {sz n:Nat} {xs:List Value} (k:Own h v T sz n xs):v.oneCell'=true:=by
 obtain ⟨A,c,rfl,_⟩:=k.slice
 rfl
section
variable {h h':ah} {v:Value} {M:List ET} {S:Nat→Prop}
theorem Sd.one (k:Sd h v M):∀ x∈M.flatMap GD,x.oneCell'=true:=fun x hx=>by
 obtain ⟨y,hy,hx⟩:=List.mem_flatMap.1 hx
 simp only [GD,List.mem_cons,List.not_mem_nil,or_false] at hx
 rcases hx with rfl | rfl
 · rfl
 · exact vZ (k.bod y hy)
theorem Sd.nil (h:ah):Sd h (.slice none 0 0) []:=⟨Own.nil _ _ _,(fun _ h=>nomatch h)⟩
theorem Sd.off (k:Sd h v M) {b:Nat} {cs:List Value} {T:TypeId} (hb:h[b]?=some (.cells ⟨cs⟩ T (0,0))) (h1:T ≠ 53) (h2:T ≠ 5):v.ownBlock ≠ some b∧∀ y∈M,y.2.1.ownBlock ≠ some b:=⟨bV k.row hb h1,fun y hy=>bV (k.bod y hy) hb h2⟩
end
def Part (hd:Nat) (l:List UInt8):Prop:=l.length < hd+4∨(hd+4≤l.length∧∃ n:Nat,iK ((l.drop hd).take 4)=(n:Int)∧(4≤n∧n≤65536)∧l.length < hd+n)
theorem AP {h:ah} {A:Option Addr} {c:Nat} (l k:Nat) (hl:l < k+4) (hm:l≤1000000) (hk:k≤10) :
   ag Tryz.prog 176 ⟨[.slice A l c,In (k:Int),In 4]⟩ h fun u h'=>u=.tuple ⟨[In 0,In 3]⟩∧h'=h:=by
 refine calls [(0,_),(1,_),(2,_)] Tryz.func176 rfl Tryz.ntmps176 rfl ⟨rfl,rfl,rfl,trivial⟩ ?_
 refine G2 ?_;refine WC.seq ?_;refine WC.block ?_;refine G3 ?_;refine WL.call (vs:=[_]) rfl Tryz.call180 rfl (vz) rfl rfl rfl ?_
 rintro _ hz ⟨rfl,_⟩
 subst hz
 refine Go ?_;refine Gs [(0,_),(1,_),(2,_),(11,_)] ?_
 refine aJ 1 2 ?_ TT.mk
 all_goals (refine ax 2 ?_)
 refine WC.region (Go ?_);refine Gn ?_
 refine aJ 3 4 ?_ TT.mk
 all_goals (refine ax 4 ?_)
 refine G3 ?_;refine Gs [(0,_),(1,_),(2,_),(17,_)] ?_
 refine aJ 5 6 (Hb.mk fun hb=>?_) (Hb.mk fun hb=>?_)
 all_goals try (
 refine ax 5 ?_
 refine WC.skip ?_
 skip)
 all_goals try (
 refine ax 6 ?_
 refine WC.region (Go ?_)
 skip)
 all_goals (refine Gn ?_;first | refine aJ 7 8 ?_ TT.mk | (refine aJ 7 8 (Hb.mk fun hb=>?_) (Hb.mk fun hb=>?_)))
 all_goals try (
 refine ax 7 ?_
 all_goals (refine G2 ?_;refine Gs [(6,_),(7,_)] ?_;refine Gt ?_;first | exact ⟨rfl,rfl⟩ | (exfalso;omega))
 skip)
 all_goals (refine ax 8 ?_)
 refine WC.skip ?_;refine Gn ?_;refine WC.sr ?_
 (exfalso;omega)
section
variable {h h':ah} {b:Nat} {ty:Bool} {v:Value} {l:List UInt8} {S:Nat→Prop}
theorem qx (k:Fw h b ty v l) (hd:Nat) (he:(if ty=true then 1 else 0)=hd) (hl:l.length < hd+4) (hm:l.length≤1000000):ag Tryz.prog 171 ⟨[.pointer (some ⟨b,0,none⟩)]⟩ h fun u h'=>u=.tuple ⟨[In 0,.bool false]⟩∧Ext No h h':=by
 have hb:=k.bq
 have ho:=k.own
 have JC:hd≤1:=by rw [← he];split <;> omega
 obtain ⟨B,d,rfl,_⟩:=id ho.slice
 have kh:=fun h'=>jr (h:=h') ty
 rw [he] at kh
 have kg:=fun h'=>AP (h:=h') (A:=B) (c:=d) l.length hd hl hm (by omega)
 refine calls [(0,_)] Tryz.func171 rfl Tryz.ntmps171 rfl ⟨rfl,trivial⟩ ?_
 refine G2 ?_;refine WC.seq ?_;refine WC.bW (fun h'=>Ext No h h') 15 15 rfl dk ?_
 refine WH.tk 0 rfl (fun hq hC=>ak rfl) rfl rfl rfl ?_
 refine WH.tk 1 rfl (fun hq hC=>ae rfl) rfl rfl rfl ?_
 refine WH.tk 2 rfl (fun hq hC=>ad rfl Tryz.underlying147 rfl Tryz.sizeOf23) rfl rfl rfl ?_
 refine WH.tk 3 rfl (fun hq hC=>aA Tryz.isAgg23 rfl (by first | exact hC.cell (by first | exact aa hb rfl | assumption) aO)) rfl rfl rfl ?_
 refine WH.tk 4 rfl (fun hq hC=>ak rfl) rfl rfl rfl ?_
 refine WH.tk 5 rfl (fun hq hC=>ae rfl) rfl rfl rfl ?_
 refine WH.tk 6 rfl (fun hq hC=>ad rfl Tryz.underlying147 rfl Tryz.sizeOf145) rfl rfl rfl ?_
 refine WH.tk 7 rfl (fun hq hC=>an Tryz.isAgg145 Tryz.sizeOf145 rfl rfl (by exact At.pre (xs:=[_]) (ys:=[_,_,_,_]) ((At.au hb).ext hC aO))) rfl rfl rfl ?_
 refine WH.one 8 (by kernel_rfl) ?_
 refine aE.call (vs:=[_]) rfl rfl Tryz.call88 rfl (kh _) rfl rfl rfl ?_ (fun _=>by kernel_rfl)
 rintro _ h1 ⟨rfl,ay⟩
 refine ⟨fun _=>ay,?_⟩
 refine WH.one 9 (by kernel_rfl) ?_
 refine aE.call (vs:=[_,_,_]) rfl rfl Tryz.call176 rfl (kg _) rfl rfl rfl ?_ (fun _=>by kernel_rfl)
 rintro _ hq ⟨rfl,hz⟩
 replace hz:=hz.symm
 subst hz
 refine ⟨fun _=>ay,?_⟩
 refine WH.tk 10 rfl (fun hq hC=>ak rfl) rfl rfl rfl ?_
 refine WH.tk 11 rfl (fun hq hC=>bU rfl rfl) rfl rfl rfl ?_
 refine WH.tk 12 rfl (fun hq hC=>bU rfl rfl) rfl rfl rfl ?_
 refine WH.tk 13 rfl (fun hq hC=>aR rfl) rfl rfl rfl ?_
 refine WH.tk 14 rfl (fun hq hC=>aR rfl) rfl rfl rfl ?_
 refine WH.done (by kernel_rfl) ?_
 refine Gn ?_;refine Gs [(4,_),(5,_)] ?_;refine G2 ?_;refine Gs [(2,_),(3,_)] ?_;refine Gt ?_
 exact ⟨rfl,by first | exact ay | exact hC⟩
theorem ox (k:Fw h b ty v l) (hd:Nat) (he:(if ty=true then 1 else 0)=hd) (hp:Part hd l) (hm:l.length≤1000000) :
   ag Tryz.prog 121 ⟨[.pointer (some ⟨b,0,none⟩)]⟩ h fun u h'=>(∃ n:Int,u=.tuple ⟨[In n,.bool false,In 0]⟩)∧Fw h' b ty v l∧Ext (fun q=>q=b) h h':=by
 have hb:=k.bq
 have lb:=aj hb
 obtain ⟨B,d,rfl,_⟩:=id k.own.slice
 rcases hp with hp | ⟨hp,n,hn,h4,hl⟩
 ·
   have ks:=qx k hd he hp hm
   refine calls [(0,_)] Tryz.func121 rfl Tryz.ntmps121 rfl ⟨rfl,trivial⟩ ?_
   refine G2 ?_;refine G3 ?_;refine WL.step (ae rfl) rfl rfl rfl (Go ?_);refine WL.ld rfl (by first | exact aa hb rfl | assumption) rfl rfl rfl (Go ?_)
   refine Gs [(0,_),(12,_)] ?_
   refine aJ 1 2 ?_ TT.mk
   all_goals (refine ax 2 ?_)
   refine WC.skip ?_;refine Gn ?_;refine G2 ?_;refine WL.call (vs:=[_]) rfl Tryz.call171 rfl (ks) rfl rfl rfl ?_
   rintro _ h1 ⟨rfl,ay⟩
   refine Go ?_;refine Gs [(0,_),(5,_),(6,_)] ?_;refine G3 ?_
   refine aJ 3 4 ?_ TT.mk
   all_goals (refine ax 3 ?_)
   refine G2 ?_;refine Gs [(2,_),(3,_),(4,_)] ?_;refine Gt ?_
   exact ⟨⟨_,rfl⟩,k.aq ay,ay.mono fun _ _ e=>e.elim⟩
 ·
   have ks:=vA k hd he hp hm
   rw [hn] at ks
   have kc:=fun (g:ah) (x:Ext No h g)=>rI (k.aq x) n h4
   have kh:=fun h'=>jr (h:=h') ty
   rw [he] at kh
   refine calls [(0,_)] Tryz.func121 rfl Tryz.ntmps121 rfl ⟨rfl,trivial⟩ ?_
   refine G2 ?_;refine G3 ?_;refine WL.step (ae rfl) rfl rfl rfl (Go ?_);refine WL.ld rfl (by first | exact aa hb rfl | assumption) rfl rfl rfl (Go ?_)
   refine Gs [(0,_),(12,_)] ?_
   refine aJ 1 2 ?_ TT.mk
   all_goals (refine ax 2 ?_)
   refine WC.skip ?_;refine Gn ?_;refine G2 ?_;refine WL.call (vs:=[_]) rfl Tryz.call171 rfl (ks) rfl rfl rfl ?_
   rintro _ h1 ⟨rfl,ay⟩
   have aQ:=ay.obj hb aO
   refine Go ?_;refine Gs [(0,_),(5,_),(6,_)] ?_;refine G3 ?_
   refine aJ 3 4 ?_ TT.mk
   all_goals (refine ax 4 ?_)
   refine WC.skip ?_;refine Gn ?_;refine G3 ?_;refine WL.call (vs:=[_,_]) rfl Tryz.call172 rfl (kc _ ay) rfl rfl rfl ?_
   rintro _ hq ⟨rfl,hz⟩
   replace hz:=hz.symm
   subst hz
   refine WL.step (ae rfl) rfl rfl rfl (Go ?_);refine WL.az (aC Tryz.sizeOf48 rfl rfl aQ (Nat.le_of_ble_eq_true rfl) rfl rfl) rfl rfl ?_
   rintro _ h2 ⟨bH,aH⟩
   have k2:Fw h2 b ty (.slice B l.length d) l:=⟨bH,(k.aq ay).own.ext aH (k.aq ay).ne⟩
   refine Gn ?_;refine Gs [(0,_),(5,_)] ?_;refine G2 ?_;refine WL.step (ae rfl) rfl rfl rfl (Go ?_);refine WL.ld rfl (by first | exact aa bH rfl | assumption) rfl rfl rfl (Go ?_)
   refine Gs [(0,_),(5,_),(34,_)] ?_
   refine aJ 5 6 ?_ TT.mk
   all_goals (refine ax 6 ?_)
   refine WC.skip ?_;refine Gn ?_;refine G2 ?_;refine WL.step (ae rfl) rfl rfl rfl (Go ?_);refine WL.step (an Tryz.isAgg145 Tryz.sizeOf145 rfl rfl (by exact At.pre (xs:=[_]) (ys:=[_,_,_,_]) (At.au bH))) rfl rfl rfl ?_
   refine WL.call (vs:=[_]) rfl Tryz.call88 rfl (kh _) rfl rfl rfl ?_
   rintro _ h3 ⟨rfl,aP⟩
   have k3:=k2.aq aP
   have bn:=k3.bq
   have X3:Ext (fun q=>q=b) h h3:=(ay.mono fun _ _ e=>e.elim).trans (aH.trans (aP.mono fun _ _ e=>e.elim))
   refine Go ?_;refine Gs [(0,_),(7,_)] ?_;refine WC.seq ?_;refine WC.fo dk (by kernel_rfl) ?_
   refine WQ.aK (ak rfl) rfl rfl rfl ?_;refine WQ.aK (ak rfl) rfl rfl rfl ?_;refine WQ.aK (ak rfl) rfl rfl rfl ?_;refine WQ.aK (ae rfl) rfl rfl rfl ?_;refine WQ.aK (ad rfl Tryz.underlying147 rfl Tryz.sizeOf23) rfl rfl rfl ?_;refine WQ.aK (aA Tryz.isAgg23 rfl (by first | exact aa bn rfl | assumption)) rfl rfl rfl ?_
   refine WQ.aK (cu rfl Tryz.underlying23 rfl) rfl rfl rfl ?_
   first | (refine WQ.aK (bK.eX (by omega) (mW rfl rfl)) rfl rfl rfl ?_)
   refine WQ.aK (aR rfl) rfl rfl rfl ?_;refine WQ.aK (aR rfl) rfl rfl rfl ?_;refine WQ.aK (aR rfl) rfl rfl rfl ?_;refine WQ.nil ?_;refine Gn ?_;refine Gs [(2,_),(3,_),(4,_)] ?_;refine Gt ?_
   exact ⟨⟨_,rfl⟩,k3,X3⟩
theorem qy (k:Fw h b ty v l) (hd:Nat) (he:(if ty=true then 1 else 0)=hd) (hp:Part hd l) (hm:l.length≤1000000) :
   ag Tryz.prog 86 ⟨[.pointer (some ⟨b,0,none⟩)]⟩ h fun u h'=>u=.tuple ⟨[.agg ⟨[.int .u8 0,.slice none 0 0]⟩,.bool false,In 0]⟩∧Fw h' b ty v l∧Ext (fun q=>q=b) h h':=by
 have kr:=fun (h':ah) (k:Fw h' b ty v l)=>kO k
 have kw:=fun (h':ah) (k:Fw h' b ty v l)=>ox k hd he hp hm
 have lb:=aj k.bq
 refine calls [(0,_)] Tryz.func86 rfl Tryz.ntmps86 rfl ⟨rfl,trivial⟩ ?_
 refine WC.sr ?_;refine WL.ai (av (fun w=>Tryz.zeroValue53 w)) rfl rfl rfl ?_
 rintro _ h1 ⟨b1,rfl,bO,aQ,ay⟩
 have k1:=k.aq ay
 refine Go ?_;refine G3 ?_;refine WL.call (vs:=[_]) rfl Tryz.call85 rfl (kr _ k1) rfl rfl rfl ?_
 rintro _ hq ⟨rfl,hz⟩
 replace hz:=hz.symm
 subst hz
 refine Go ?_;refine Gs [(0,_),(2,_),(11,_)] ?_
 refine aJ 1 2 ?_ TT.mk
 all_goals (refine ax 2 ?_)
 refine WC.skip ?_;refine Gn ?_;refine G2 ?_;refine WL.call (vs:=[_]) rfl Tryz.call121 rfl (kw _ k1) rfl rfl rfl ?_
 rintro _ h2 ⟨⟨n2,rfl⟩,k2,aH⟩
 have bX:=aH.obj aQ (fun e=>by omega)
 refine Go ?_;refine Gs [(0,_),(2,_),(5,_),(6,_),(7,_)] ?_;refine G3 ?_
 refine aJ 3 4 ?_ TT.mk
 all_goals (refine ax 3 ?_)
 refine WC.sr ?_;refine WL.step (aD (vs:=[]) (cs:=[_,_]) (fun | []=>[(.int .u8 0),(.slice none 0 0)] | _=>[]) rfl rfl (by kernel_rfl)) rfl rfl rfl (Go ?_)
 refine WL.az (al Tryz.sizeOf53 rfl rfl rfl bX rfl (by simp [Value.oneCell'])) rfl rfl ?_
 rintro _ h3 ⟨bn,aP⟩
 refine Go ?_;refine Gs [(2,_),(3,_),(4,_)] ?_;refine WC.ret ?_
 repeat' (with_reducible first | refine ba ?_ | refine aV ?_)
 refine pz _ _ _ ⟨⟨_,rfl,bB Tryz.isAgg53 Tryz.sizeOf53 (by assumption) rfl⟩,rfl,rfl,trivial⟩ ?_
 exact ⟨rfl,k2.ext aP (fun e=>by omega) (fun q hq e=>bV k2.own bX (by decide) (e▸hq)),((ay.mono fun _ _ e=>e.elim).trans aH).trans' aP (fun q hq e=>by omega)⟩
end
section
variable {h h':ah} {A:Ad} {st:Int} {sk ov:Bool} {cnt:Int} {L:List (List UInt8 × gR)} {P:List (List UInt8 × ez)}
def JF (h:ah) (A:Ad) (P:List (List UInt8 × ez)) (x:SP × List iw) (u:Value) (h':ah):Prop:=(∃ B,cB h h' u B∧B.map Bk.p=x.2)∧Sv h A P h' x.1
theorem KQ (k:Ss h A st sk ov cnt L P) (f:Fm) (hf:f.ok h) (hk:ov=true∨f.kind=88∨f.kind=83∨sk=true) :
   ag Tryz.prog 58 ⟨[.pointer (some ⟨A.bs,0,none⟩),.agg ⟨f.cells⟩]⟩ h (JF h A P (iy (cw st sk ov cnt L P) f.p)):=by
 have kr:=fun (g:ah) (k:Ss g A st sk ov cnt L P)=>lC k.se.bq
 have hd:iy (cw st sk ov cnt L P) f.p=if ov=true then (cw st sk ov cnt L P,[]) else if f.kind=88 then (cw st sk true cnt L P,[]) else if f.kind=83 then ((ep (cw st false ov cnt L P)).1,[{ kind:=90,status:=st }]) else if sk=true then (cw st sk ov cnt L P,[]) else fU f.p (eC (cw st sk ov cnt L P) f.p):=rfl
 rw [hd]
 clear hd
 obtain ⟨⟨e1,_⟩,⟨e2,_⟩,⟨e3,_⟩,e4,_⟩:=hf
 obtain ⟨fk,w,n,p,t,vo,o,vf,fs,vs,rs,vp,ps,mx⟩:=f
 dsimp only at e1 e2 e3 e4 hk
 obtain ⟨_,_,rfl,_⟩:=e1
 obtain ⟨_,_,rfl,_⟩:=e2
 obtain ⟨_,_,rfl,_⟩:=e3
 obtain ⟨_,_,rfl,_⟩:=e4
 dsimp only [Fm.cells]
 by_cases e1:ov=true
 · rw [if_pos e1]
   subst e1
   refine calls [(0,_),(1,_)] Tryz.func58 rfl Tryz.ntmps58 rfl ⟨rfl,rfl,trivial⟩ ?_
   refine WC.sr ?_;refine WL.ai (aB rfl) rfl rfl rfl ?_
   rintro _ h1 ⟨b3,rfl,bO,aQ,ay⟩
   have k1:=k.aq ay
   have hb:=k1.se.bq
   have lb:=aj k.se.bq
   have n3:¬ b3=A.bs:=by omega
   refine Go ?_;refine G3 ?_;refine WL.call (vs:=[_]) rfl Tryz.call99 rfl (kr _ k1) rfl rfl rfl ?_
   rintro _ hz ⟨rfl,_⟩
   subst hz
   refine Go ?_;refine Gs [(0,_),(3,_),(10,_)] ?_
   refine aJ 1 2 ?_ TT.mk
   all_goals (refine ax 1 ?_)
   refine G2 ?_;refine Gt ?_
   exact ⟨⟨[],cB.nil _ _,rfl⟩,.of k1 (Tn.no ay)⟩
 rw [if_neg e1]
 obtain rfl:ov=false:=by simpa using e1
 by_cases e2:fk=88
 · rw [if_pos e2]
   refine calls [(0,_),(1,_)] Tryz.func58 rfl Tryz.ntmps58 rfl ⟨rfl,rfl,trivial⟩ ?_
   refine WC.sr ?_;refine WL.ai (aB rfl) rfl rfl rfl ?_
   rintro _ h1 ⟨b3,rfl,bO,aQ,ay⟩
   have k1:=k.aq ay
   have hb:=k1.se.bq
   have lb:=aj k.se.bq
   have n3:¬ b3=A.bs:=by omega
   refine Go ?_;refine G3 ?_;refine WL.call (vs:=[_]) rfl Tryz.call99 rfl (kr _ k1) rfl rfl rfl ?_
   rintro _ hz ⟨rfl,_⟩
   subst hz
   refine Go ?_;refine Gs [(0,_),(3,_),(10,_)] ?_
   refine aJ 1 2 ?_ TT.mk
   all_goals (refine ax 2 ?_)
   refine WC.skip ?_;refine Gn ?_;refine WC.seq ?_;refine WC.block ?_;refine G2 ?_;refine WL.ld rfl (by first | exact aa aQ rfl | assumption) rfl rfl rfl (Go ?_)
   refine Gs [(0,_),(3,_),(11,_)] ?_
   refine aJ 3 4 ?_ TT.mk
   all_goals (refine ax 3 ?_)
   refine G2 ?_;refine WL.step (ae rfl) rfl rfl rfl (Go ?_);refine WL.az (aC Tryz.sizeOf4 rfl rfl hb (Nat.le_of_ble_eq_true rfl) rfl rfl) rfl rfl ?_
   rintro _ h2 ⟨bH,aH⟩
   obtain ⟨k2,t2⟩:=k1.jL aH bH k1.sto
   refine Gn ?_;refine Gs [] ?_;refine G2 ?_;refine Gt ?_
   exact ⟨⟨[],cB.nil _ _,rfl⟩,.of k2 ((Tn.no ay).trans t2)⟩
 rw [if_neg e2]
 by_cases e3:fk=83
 · rw [if_pos e3]
   have ks:=fun (g:ah) (k:Ss g A st false false cnt L P)=>Dc k
   unfold F1 at ks
   refine calls [(0,_),(1,_)] Tryz.func58 rfl Tryz.ntmps58 rfl ⟨rfl,rfl,trivial⟩ ?_
   refine WC.sr ?_;refine WL.ai (aB rfl) rfl rfl rfl ?_
   rintro _ h1 ⟨b3,rfl,bO,aQ,ay⟩
   have k1:=k.aq ay
   have hb:=k1.se.bq
   have lb:=aj k.se.bq
   have n3:¬ b3=A.bs:=by omega
   refine Go ?_;refine G3 ?_;refine WL.call (vs:=[_]) rfl Tryz.call99 rfl (kr _ k1) rfl rfl rfl ?_
   rintro _ hz ⟨rfl,_⟩
   subst hz
   refine Go ?_;refine Gs [(0,_),(3,_),(10,_)] ?_
   refine aJ 1 2 ?_ TT.mk
   all_goals (refine ax 2 ?_)
   refine WC.skip ?_;refine Gn ?_;refine WC.seq ?_;refine WC.block ?_;refine G2 ?_;refine WL.ld rfl (by first | exact aa aQ rfl | assumption) rfl rfl rfl (Go ?_)
   refine Gs [(0,_),(3,_),(11,_)] ?_
   refine aJ 3 4 ?_ TT.mk
   all_goals (refine ax 4 ?_)
   refine G2 ?_;refine WL.ld rfl (by first | exact aa aQ rfl | assumption) rfl rfl rfl (Go ?_)
   refine Gs [(0,_),(3,_),(18,_)] ?_
   refine aJ 5 6 ?_ TT.mk
   all_goals (refine ax 5 ?_)
   refine G2 ?_;refine WL.step (ae rfl) rfl rfl rfl (Go ?_);refine WL.az (aC Tryz.sizeOf4 rfl rfl hb (Nat.le_of_ble_eq_true rfl) rfl rfl) rfl rfl ?_
   rintro _ h2 ⟨bH,aH⟩
   obtain ⟨k2,t2⟩:=k1.jL aH bH k1.sto
   refine Gn ?_;refine Gs [(0,_)] ?_;refine G2 ?_;refine WL.call (vs:=[_]) rfl Tryz.call100 rfl (ks _ k2) rfl rfl rfl ?_
   rintro _ h3 ⟨rfl,⟨L3,P3,k3,Nw,Nx,t3⟩,aP⟩
   refine WL.ai (aw (vs:=[_]) (cs:=[_,_,_,_,_,_,_,_,_,_,_]) (fun | [.agg ⟨[a0,a1,a2,a3,a4,a5,a6,a7,a8,a9,gd]⟩]=>[a0,a1,a2,a3,a4,a5,a6,a7,a8,a9,gd] | _=>[]) Tryz.underlying80 rfl rfl (by kernel_rfl)) rfl rfl rfl ?_
   rintro _ h4 ⟨b4,rfl,oF,bx,aW⟩
   refine Go ?_;refine Gs [(4,_)] ?_;refine Gt ?_
   have T3:=((Tn.no (A:=A) (P:=P) ay).trans t2).trans t3
   exact ⟨⟨[ll 90 st []],.tag bx (by have:=T3.1.size;omega),rfl⟩,L3,P3,k3.aq aW,Nw,Nx,T3.trans (Tn.no aW)⟩
 rw [if_neg e3]
 obtain rfl:sk=true:=by
   rcases hk with hk | hk | hk | hk
   · cases hk
   · exact absurd hk e2
   · exact absurd hk e3
   · exact hk
 rw [if_pos rfl]
 refine calls [(0,_),(1,_)] Tryz.func58 rfl Tryz.ntmps58 rfl ⟨rfl,rfl,trivial⟩ ?_
 refine WC.sr ?_;refine WL.ai (aB rfl) rfl rfl rfl ?_
 rintro _ h1 ⟨b3,rfl,bO,aQ,ay⟩
 have k1:=k.aq ay
 have hb:=k1.se.bq
 have lb:=aj k.se.bq
 have n3:¬ b3=A.bs:=by omega
 refine Go ?_;refine G3 ?_;refine WL.call (vs:=[_]) rfl Tryz.call99 rfl (kr _ k1) rfl rfl rfl ?_
 rintro _ hz ⟨rfl,_⟩
 subst hz
 refine Go ?_;refine Gs [(0,_),(3,_),(10,_)] ?_
 refine aJ 1 2 ?_ TT.mk
 all_goals (refine ax 2 ?_)
 refine WC.skip ?_;refine Gn ?_;refine WC.seq ?_;refine WC.block ?_;refine G2 ?_;refine WL.ld rfl (by first | exact aa aQ rfl | assumption) rfl rfl rfl (Go ?_)
 refine Gs [(0,_),(3,_),(11,_)] ?_
 refine aJ 3 4 ?_ TT.mk
 all_goals (refine ax 4 ?_)
 refine G2 ?_;refine WL.ld rfl (by first | exact aa aQ rfl | assumption) rfl rfl rfl (Go ?_)
 refine Gs [(0,_),(3,_),(18,_)] ?_
 refine aJ 5 6 ?_ TT.mk
 all_goals (refine ax 6 ?_)
 refine G2 ?_;refine WL.step (ae rfl) rfl rfl rfl (Go ?_);refine WL.ld rfl (by first | exact aa hb rfl | assumption) rfl rfl rfl (Go ?_)
 refine Gs [(0,_),(3,_),(28,_)] ?_
 refine aJ 7 8 ?_ TT.mk
 all_goals (refine ax 7 ?_)
 refine G2 ?_;refine Gt ?_
 exact ⟨⟨[],cB.nil _ _,rfl⟩,.of k1 (Tn.no ay)⟩
theorem Dw (k:Ss h A st sk ov cnt L P):ag Tryz.prog 100 ⟨[.pointer (some ⟨A.bs,0,none⟩)]⟩ h fun u h'=>u=.agg ⟨F1 90 st []⟩∧(∃ P',(∀ q∈P',q∈P)∧Ss h' A st sk ov cnt L P'∧fZ P'=(if st=73 then [] else fZ P)∧Tn A P h h' P')∧Ext (fun q=>q=A.mp) h h':=by
 refine (sn k).mono fun u h' ⟨e,kk,tt,x⟩=>⟨e,⟨_,?_,kk,?_,tt⟩,x⟩
 · intro q hq
   split at hq
   · exact nomatch hq
   · exact hq
 · split <;> rfl
theorem cB.sB {h0 h:ah} {B:List Bk} (k:cB h0 h nS B):B=[]:=by
 obtain ⟨_,_,e,_⟩:=k.own.slice
 simp only [nS,Value.slice.injEq] at e
 exact List.eq_nil_of_length_eq_zero (by omega)
theorem qz {a b c d:Value} (h:Value.tuple ⟨[a,b]⟩=.tuple ⟨[c,d]⟩):a=c∧b=d:=by simpa using h
theorem Ss.IJ {g g':ah} {S:Nat→Prop} {st':Int} {sk' ov':Bool} {cnt':Int} {L':List (List UInt8 × gR)} {P':List (List UInt8 × ez)} (k:Ss h A st sk ov cnt L P) (k':Ss g A st' sk' ov' cnt' L' P') (sL:∀ q∈L',q∈L) (sP:∀ q∈P',q∈P) (x:Ext S g g') (hS:∀ q,S q→h.size≤q):Ss g' A st' sk' ov' cnt' L' P':=by
 have nS':∀ {q:Nat},q < h.size→¬ S q:=fun hq e=>by have:=hS _ e;omega
 have e:=k'.se
 refine ⟨⟨x.obj e.bq (nS' (aj k.se.bq)),e.stm.ext x (nS' k.se.stm.lt),x.obj e.pb (nS' (aj k.se.pb)),e.pm.ext x (nS' k.se.pm.lt),x.obj e.eb (nS' (aj k.se.eb)),e.em.ext x (nS' k.se.em.lt),e.ne⟩,fun q hq=>?_,fun q hq=>?_,k'.dis,k'.sto,k'.cok,k'.zz.up x.size⟩
 · exact ⟨(k'.sok q hq).1.ext' x (fun z h0 hz=>nS' ((k.sok q (sL q hq)).1.lt h0 hz)),(k'.sok q hq).2⟩
 · exact ⟨x.obj (k'.pok q hq).1 (nS' (aj (k.pok q (sP q hq)).1)),(k'.pok q hq).2.1.ext x (fun z hz=>nS' ((k.pok q (sP q hq)).2.1.lt hz)),(k'.pok q hq).2.2⟩
theorem KR (er:Er h) (h0:¬ Mu A P 0) (k:Ss h A st false false cnt L P) (f:Fm) (hf:f.ok h) (hk:f.kind ≠ 88∧f.kind ≠ 83∧f.kind ≠ 81) {r:gj}
   (kd:∀ g,Ext No h g→ag Tryz.prog 101 ⟨[.pointer (some ⟨A.bs,0,none⟩),.agg ⟨f.cells⟩]⟩ g (Gz fun v e h'=>ct g A P r (.tuple ⟨[v,e]⟩) h')) :
   ag Tryz.prog 58 ⟨[.pointer (some ⟨A.bs,0,none⟩),.agg ⟨f.cells⟩]⟩ h (JF h A P (fU f.p r)):=by
 have kr:=fun (g:ah) (k:Ss g A st false false cnt L P)=>lC k.se.bq
 obtain ⟨⟨e1,_⟩,⟨e2,_⟩,⟨e3,_⟩,e4,_⟩:=hf
 obtain ⟨fk,w,n,p,t,vo,o,vf,fs,vs,rs,vp,ps,mx⟩:=f
 dsimp only at e1 e2 e3 e4 hk
 obtain ⟨_,_,rfl,_⟩:=e1
 obtain ⟨_,_,rfl,_⟩:=e2
 obtain ⟨_,_,rfl,_⟩:=e3
 obtain ⟨_,_,rfl,_⟩:=e4
 obtain ⟨OZ,O0,AQ⟩:=hk
 dsimp only [Fm.cells,Fm.p] at kd ⊢
 rcases r with ⟨⟨ot,EK,Ax,Co,Dx,Dy⟩,out,_ | ⟨ec,et⟩⟩
 · have hr:fU ⟨fk,w,n,p,t,o,ps.map aX.pl,mx⟩ (⟨ot,EK,Ax,Co,Dx,Dy⟩,out,none)=(⟨ot,EK,Ax,Co,Dx,Dy⟩,out):=if_neg AQ
   rw [hr]
   clear hr
   refine calls [(0,_),(1,_)] Tryz.func58 rfl Tryz.ntmps58 rfl ⟨rfl,rfl,trivial⟩ ?_
   refine WC.sr ?_;refine WL.ai (aB rfl) rfl rfl rfl ?_
   rintro _ h1 ⟨b3,rfl,bO,aQ,ay⟩
   have k1:=k.aq ay
   have hb:=k1.se.bq
   have lb:=aj k.se.bq
   have n3:¬ b3=A.bs:=by omega
   refine Go ?_;refine G3 ?_;refine WL.call (vs:=[_]) rfl Tryz.call99 rfl (kr _ k1) rfl rfl rfl ?_
   rintro _ hz ⟨rfl,_⟩
   subst hz
   refine Go ?_;refine Gs [(0,_),(3,_),(10,_)] ?_
   refine aJ 1 2 ?_ TT.mk
   all_goals (refine ax 2 ?_)
   refine WC.skip ?_;refine Gn ?_;refine WC.seq ?_;refine WC.block ?_;refine G2 ?_;refine WL.ld rfl (by first | exact aa aQ rfl | assumption) rfl rfl rfl (Go ?_)
   refine Gs [(0,_),(3,_),(11,_)] ?_
   refine aJ 3 4 ?_ TT.mk
   all_goals (refine ax 4 ?_)
   refine G2 ?_;refine WL.ld rfl (by first | exact aa aQ rfl | assumption) rfl rfl rfl (Go ?_)
   refine Gs [(0,_),(3,_),(18,_)] ?_
   refine aJ 5 6 ?_ TT.mk
   all_goals (refine ax 6 ?_)
   refine G2 ?_;refine WL.step (ae rfl) rfl rfl rfl (Go ?_);refine WL.ld rfl (by first | exact aa hb rfl | assumption) rfl rfl rfl (Go ?_)
   refine Gs [(0,_),(3,_),(28,_)] ?_
   refine aJ 7 8 ?_ TT.mk
   all_goals (refine ax 8 ?_)
   refine WC.skip ?_;refine Gn ?_;refine G2 ?_;refine WL.step (an Tryz.isAgg42 Tryz.sizeOf42 rfl rfl (by exact At.au aQ)) rfl rfl rfl ?_
   refine WL.call (vs:=[_,_]) rfl Tryz.call101 rfl (kd _ ay) rfl rfl rfl ?_
   rintro _ h2 ⟨u2,e2,rfl,v2,B2,c2,heq,O2,x9,L2,P2,k2,AR,AU,t2⟩
   obtain ⟨q1,q2⟩:=qz heq
   subst q1 q2
   dsimp only [fY] at x9 k2 AR AU ⊢
   subst AR
   subst AU
   have bX:=t2.1.obj aQ (k1.not aQ (by decide) (by decide) (by decide))
   refine Go ?_;refine Gs [(0,_),(3,_),(5,_),(6,_)] ?_;refine WC.sr ?_;refine WL.ai (av (fun w=>Tryz.zeroValue169 w)) rfl rfl rfl ?_
   rintro _ h3 ⟨b7,rfl,gb,bn,aP⟩
   have hbK:=aP.obj bX aO
   have kK:=k2.aq aP
   have OK:=(O2.mono ay.size).aq aP
   have TK:=((Tn.no (A:=A) (P:=P) ay).trans t2).trans (Tn.no aP)
   refine Gn ?_;refine G3 ?_;refine WL.step (fQ ⟨_,Tryz.underlying171,fun _ h=>by cases h⟩ rfl) rfl rfl rfl ?_
   refine WL.call (vs:=[_,_]) rfl Tryz.call102 rfl (vT _) rfl rfl rfl ?_
   rintro _ hz ⟨rfl,_⟩
   subst hz
   refine Gn ?_
   refine aJ 9 10 ?_ TT.mk
   all_goals (refine ax 10 ?_)
   refine WC.skip ?_;refine Gn ?_;refine G3 ?_;refine WL.ld rfl (by first | exact aa hbK rfl | assumption) rfl rfl rfl (Go ?_)
   refine Gs [(0,_),(5,_),(56,_)] ?_
   refine aJ 11 12 ?_ TT.mk
   all_goals (refine ax 12 ?_)
   refine WC.skip ?_;refine Gn ?_;refine G2 ?_;refine Gs [(4,_)] ?_;refine Gt ?_
   exact ⟨⟨B2,OK,x9⟩,L2,P2,kK,rfl,rfl,TK⟩
 · have hr:fU ⟨fk,w,n,p,t,o,ps.map aX.pl,mx⟩ (⟨ot,EK,Ax,Co,Dx,Dy⟩,out,some (ec,et))=(⟨fp ot,decide (fk ≠ 81),Ax,Co,Dx,if fp ot=69 then [] else Dy⟩,out++[oq ec et]):=if_neg AQ
   rw [hr]
   clear hr
   refine calls [(0,_),(1,_)] Tryz.func58 rfl Tryz.ntmps58 rfl ⟨rfl,rfl,trivial⟩ ?_
   refine WC.sr ?_;refine WL.ai (aB rfl) rfl rfl rfl ?_
   rintro _ h1 ⟨b3,rfl,bO,aQ,ay⟩
   have k1:=k.aq ay
   have hb:=k1.se.bq
   have lb:=aj k.se.bq
   have n3:¬ b3=A.bs:=by omega
   refine Go ?_;refine G3 ?_;refine WL.call (vs:=[_]) rfl Tryz.call99 rfl (kr _ k1) rfl rfl rfl ?_
   rintro _ hz ⟨rfl,_⟩
   subst hz
   refine Go ?_;refine Gs [(0,_),(3,_),(10,_)] ?_
   refine aJ 1 2 ?_ TT.mk
   all_goals (refine ax 2 ?_)
   refine WC.skip ?_;refine Gn ?_;refine WC.seq ?_;refine WC.block ?_;refine G2 ?_;refine WL.ld rfl (by first | exact aa aQ rfl | assumption) rfl rfl rfl (Go ?_)
   refine Gs [(0,_),(3,_),(11,_)] ?_
   refine aJ 3 4 ?_ TT.mk
   all_goals (refine ax 4 ?_)
   refine G2 ?_;refine WL.ld rfl (by first | exact aa aQ rfl | assumption) rfl rfl rfl (Go ?_)
   refine Gs [(0,_),(3,_),(18,_)] ?_
   refine aJ 5 6 ?_ TT.mk
   all_goals (refine ax 6 ?_)
   refine G2 ?_;refine WL.step (ae rfl) rfl rfl rfl (Go ?_);refine WL.ld rfl (by first | exact aa hb rfl | assumption) rfl rfl rfl (Go ?_)
   refine Gs [(0,_),(3,_),(28,_)] ?_
   refine aJ 7 8 ?_ TT.mk
   all_goals (refine ax 8 ?_)
   refine WC.skip ?_;refine Gn ?_;refine G2 ?_;refine WL.step (an Tryz.isAgg42 Tryz.sizeOf42 rfl rfl (by exact At.au aQ)) rfl rfl rfl ?_
   refine WL.call (vs:=[_,_]) rfl Tryz.call101 rfl (kd _ ay) rfl rfl rfl ?_
   rintro _ h2 ⟨u2,e2,rfl,v2,B2,c2,heq,O2,x9,L2,P2,k2,AR,AU,t2⟩
   obtain ⟨q1,q2⟩:=qz heq
   subst q1 q2
   dsimp only [fY] at x9 k2 AR AU ⊢
   subst AR
   subst AU
   have bX:=t2.1.obj aQ (k1.not aQ (by decide) (by decide) (by decide))
   refine Go ?_;refine Gs [(0,_),(3,_),(5,_),(6,_)] ?_;refine WC.sr ?_;refine WL.ai (av (fun w=>Tryz.zeroValue169 w)) rfl rfl rfl ?_
   rintro _ h3 ⟨b7,rfl,gb,bn,aP⟩
   have hbK:=aP.obj bX aO
   have kK:=k2.aq aP
   have OK:=(O2.mono ay.size).aq aP
   have TK:=((Tn.no (A:=A) (P:=P) ay).trans t2).trans (Tn.no aP)
   refine Gn ?_;refine G3 ?_;refine WL.step (fQ ⟨_,Tryz.underlying171,fun _ h=>by cases h⟩ rfl) rfl rfl rfl ?_
   have KS:Er h3:=((er.aq ay).ext t2.1 (fun e=>h0 e)).aq aP
   have hv:=c2 (by simp)
   subst hv
   obtain rfl:=O2.sB
   obtain rfl:out=[]:=x9.symm
   refine WL.call (vs:=[_,_]) rfl Tryz.call102 rfl (o6 ec et KS bn) rfl rfl rfl ?_
   rintro _ h4 ⟨rfl,bx,aW⟩
   have X4:Ext No h2 h4:=aP.trans' aW (fun q hq e=>by omega)
   have k4:=k2.aq X4
   have bP:=X4.obj bX aO
   have KT:b7 ≠ A.bs:=fun e=>by have:=aj k2.se.bq;omega
   refine Gn ?_
   refine aJ 9 10 ?_ TT.mk
   all_goals (refine ax 9 ?_)
   refine G2 ?_;refine WL.ld rfl (by first | exact aa bP rfl | assumption) rfl rfl rfl (Go ?_)
   refine WL.step (ae rfl) rfl rfl rfl (Go ?_);refine WL.az (aC Tryz.sizeOf4 rfl rfl k4.se.bq (Nat.le_of_ble_eq_true rfl) rfl rfl) rfl rfl ?_
   rintro _ h5 ⟨bT,aN⟩
   obtain ⟨k5,t5⟩:=k4.jL aN bT k4.sto
   have eI:=t5.1.obj bP (k4.not bP (by decide) (by decide) (by decide))
   have zm:=aN.obj bx KT
   refine Gn ?_;refine Gs [(0,_),(3,_),(5,_),(7,_)] ?_;refine WC.region (Go ?_);refine WL.step (an Tryz.isAgg169 Tryz.sizeOf169 rfl rfl (by exact At.au zm)) rfl rfl rfl ?_
   refine WL.call (vs:=[_,_]) rfl Tryz.call103 rfl (sw k5 ec et) rfl rfl rfl ?_
   rintro _ h6 ⟨⟨b6,rfl,AV,KU,KV⟩,⟨P6,LW,k6,KW,t6⟩,aM⟩
   have fB:=t6.1.obj eI (k5.not eI (by decide) (by decide) (by decide))
   refine WL.ai (aw (vs:=[_]) (cs:=[_,_,_,_,_,_,_,_,_,_,_]) (fun | [.agg ⟨[a0,a1,a2,a3,a4,a5,a6,a7,a8,a9,gd]⟩]=>[a0,a1,a2,a3,a4,a5,a6,a7,a8,a9,gd] | _=>[]) Tryz.underlying80 rfl rfl (by kernel_rfl)) rfl rfl rfl ?_
   rintro _ h7 ⟨b8,rfl,Ez,bZ,bh⟩
   refine WL.ai (aT (sz:=11) (bytes:=168) rfl Tryz.underlying80 (show Tryz.prog.info? 140=some Tryz.t140 by kernel_rfl) rfl rfl rfl rfl (by decide) rfl rfl (Own.nil _ _ 11) (bz (len:=1) (sz:=11) bZ rfl) AV.one (by simp only [maxLen];omega) (by omega)) rfl rfl rfl ?_
   rintro v8 h8 ⟨iI,bD,pM⟩
   have X8:Ext No h6 h8:=bh.trans (bD.mono fun _ _ e=>by cases e)
   have hbK:=X8.obj fB aO
   have kK:=k6.aq X8
   have T4:=((Tn.no (A:=A) (P:=P) ay).trans t2).trans (Tn.no X4)
   have T5:=T4.trans t5
   have TK:=(T5.trans t6).trans (Tn.no X8)
   have s5:=T5.1.size
   have s7:=bh.size
   have s6:=t6.1.size
   have OK:cB h h8 v8 ([]++[b6]):=(cB.nil h h7).snoc (AV.ext bh fun _ _=>aO) (fun z hz=>by have:=KV z hz;omega) (fun _ _ e=>by cases e) (by omega) iI bD pM
   refine Go ?_;refine Gn ?_;refine G3 ?_;refine WL.ld rfl (by first | exact aa hbK rfl | assumption) rfl rfl rfl (Go ?_)
   refine Gs [(0,_),(5,_),(56,_)] ?_
   refine aJ 11 12 ?_ TT.mk
   all_goals (refine ax 12 ?_)
   refine WC.skip ?_;refine Gn ?_;refine G2 ?_;refine Gs [(4,_)] ?_;refine Gt ?_
   exact ⟨⟨[]++[b6],OK,by simp [KU]⟩,L2,P6,by show Ss h8 A (fp ot) (decide (fk ≠ 81)) Ax Co L2 P6;rw [decide_eq_true AQ];exact kK,rfl,KW,TK⟩
theorem KX (er:Er h) (h0:¬ Mu A P 0) (k:Ss h A st false false cnt L P) (f:Fm) (hf:f.ok h) (AQ:f.kind=81) {r:gj} (hlen:r.2.1.length≤1000000)
   (kd:∀ g,Ext No h g→ag Tryz.prog 101 ⟨[.pointer (some ⟨A.bs,0,none⟩),.agg ⟨f.cells⟩]⟩ g (Gz fun v e h'=>fi g A L P r (.tuple ⟨[v,e]⟩) h')) :
   ag Tryz.prog 58 ⟨[.pointer (some ⟨A.bs,0,none⟩),.agg ⟨f.cells⟩]⟩ h (JF h A P (fU f.p r)):=by
 have kr:=fun (g:ah) (k:Ss g A st false false cnt L P)=>lC k.se.bq
 have ks:=fun (g:ah) (st:Int) (sk ov:Bool) (cnt:Int) (L:List (List UInt8 × gR)) (P:List (List UInt8 × ez)) (k:Ss g A st sk ov cnt L P)=>Dw k
 obtain ⟨⟨e1,_⟩,⟨e2,_⟩,⟨e3,_⟩,e4,_⟩:=hf
 obtain ⟨fk,w,n,p,t,vo,o,vf,fs,vs,rs,vp,ps,mx⟩:=f
 dsimp only at e1 e2 e3 e4 AQ
 obtain ⟨_,_,rfl,_⟩:=e1
 obtain ⟨_,_,rfl,_⟩:=e2
 obtain ⟨_,_,rfl,_⟩:=e3
 obtain ⟨_,_,rfl,_⟩:=e4
 subst AQ
 unfold F1 at ks
 dsimp only [Fm.cells,Fm.p] at kd ⊢
 rcases r with ⟨⟨ot,EK,Ax,Co,Dx,Dy⟩,out,_ | ⟨ec,et⟩⟩
 · have hr:fU ⟨81,w,n,p,t,o,ps.map aX.pl,mx⟩ (⟨ot,EK,Ax,Co,Dx,Dy⟩,out,none)=(⟨ot,EK,Ax,Co,Dx,if ot=73 then [] else Dy⟩,out++[{ kind:=90,status:=ot }]):=rfl
   rw [hr]
   clear hr
   refine calls [(0,_),(1,_)] Tryz.func58 rfl Tryz.ntmps58 rfl ⟨rfl,rfl,trivial⟩ ?_
   refine WC.sr ?_;refine WL.ai (aB rfl) rfl rfl rfl ?_
   rintro _ h1 ⟨b3,rfl,bO,aQ,ay⟩
   have k1:=k.aq ay
   have hb:=k1.se.bq
   have lb:=aj k.se.bq
   have n3:¬ b3=A.bs:=by omega
   refine Go ?_;refine G3 ?_;refine WL.call (vs:=[_]) rfl Tryz.call99 rfl (kr _ k1) rfl rfl rfl ?_
   rintro _ hz ⟨rfl,_⟩
   subst hz
   refine Go ?_;refine Gs [(0,_),(3,_),(10,_)] ?_
   refine aJ 1 2 ?_ TT.mk
   all_goals (refine ax 2 ?_)
   refine WC.skip ?_;refine Gn ?_;refine WC.seq ?_;refine WC.block ?_;refine G2 ?_;refine WL.ld rfl (by first | exact aa aQ rfl | assumption) rfl rfl rfl (Go ?_)
   refine Gs [(0,_),(3,_),(11,_)] ?_
   refine aJ 3 4 ?_ TT.mk
   all_goals (refine ax 4 ?_)
   refine G2 ?_;refine WL.ld rfl (by first | exact aa aQ rfl | assumption) rfl rfl rfl (Go ?_)
   refine Gs [(0,_),(3,_),(18,_)] ?_
   refine aJ 5 6 ?_ TT.mk
   all_goals (refine ax 6 ?_)
   refine G2 ?_;refine WL.step (ae rfl) rfl rfl rfl (Go ?_);refine WL.ld rfl (by first | exact aa hb rfl | assumption) rfl rfl rfl (Go ?_)
   refine Gs [(0,_),(3,_),(28,_)] ?_
   refine aJ 7 8 ?_ TT.mk
   all_goals (refine ax 8 ?_)
   refine WC.skip ?_;refine Gn ?_;refine G2 ?_;refine WL.step (an Tryz.isAgg42 Tryz.sizeOf42 rfl rfl (by exact At.au aQ)) rfl rfl rfl ?_
   refine WL.call (vs:=[_,_]) rfl Tryz.call101 rfl (kd _ ay) rfl rfl rfl ?_
   rintro _ h2 ⟨u2,e2,rfl,v2,B2,c2,heq,O2,x9,L2,P2,KY,KZ,k2,AR,AU,t2⟩
   obtain ⟨q1,q2⟩:=qz heq
   subst q1 q2
   dsimp only [fY] at x9 k2 AR AU ⊢
   subst AR
   subst AU
   have bX:=t2.1.obj aQ (k1.not aQ (by decide) (by decide) (by decide))
   refine Go ?_;refine Gs [(0,_),(3,_),(5,_),(6,_)] ?_;refine WC.sr ?_;refine WL.ai (av (fun w=>Tryz.zeroValue169 w)) rfl rfl rfl ?_
   rintro _ h3 ⟨b7,rfl,gb,bn,aP⟩
   have hbK:=aP.obj bX aO
   have kK:=k2.aq aP
   have OK:=(O2.mono ay.size).aq aP
   have TK:=((Tn.no (A:=A) (P:=P) ay).trans t2).trans (Tn.no aP)
   refine Gn ?_;refine G3 ?_;refine WL.step (fQ ⟨_,Tryz.underlying171,fun _ h=>by cases h⟩ rfl) rfl rfl rfl ?_
   have hlB:B2.length≤1000000:=by rw [← x9,List.length_map] at hlen;exact hlen
   replace hlen:=hlB
   refine WL.call (vs:=[_,_]) rfl Tryz.call102 rfl (vT _) rfl rfl rfl ?_
   rintro _ hz ⟨rfl,_⟩
   subst hz
   refine Gn ?_
   refine aJ 9 10 ?_ TT.mk
   all_goals (refine ax 10 ?_)
   refine WC.skip ?_;refine Gn ?_;refine G3 ?_;refine WL.ld rfl (by first | exact aa hbK rfl | assumption) rfl rfl rfl (Go ?_)
   refine Gs [(0,_),(5,_),(56,_)] ?_
   refine aJ 11 12 ?_ TT.mk
   all_goals (refine ax 11 ?_)
   refine WC.region (Go ?_);refine WL.call (vs:=[_]) rfl Tryz.call100 rfl (ks _ _ _ _ _ _ _ kK) rfl rfl rfl ?_
   rintro _ h9 ⟨rfl,⟨P9,K0,k9,Gl,t9⟩,cg⟩
   have O9:=OK.ext cg (fun q hq=>by subst hq;exact k.se.pm.lt)
   refine WL.ai (aw (vs:=[_]) (cs:=[_,_,_,_,_,_,_,_,_,_,_]) (fun | [.agg ⟨[a0,a1,a2,a3,a4,a5,a6,a7,a8,a9,gd]⟩]=>[a0,a1,a2,a3,a4,a5,a6,a7,a8,a9,gd] | _=>[]) Tryz.underlying80 rfl rfl (by kernel_rfl)) rfl rfl rfl ?_
   rintro _ iD ⟨Ny,rfl,K1,iA,cG⟩
   have xB:=O9.aq cG
   have o5:=k9.aq cG
   have Dh:=(TK.trans t9).trans (Tn.no (A:=A) (P:=P9) cG)
   obtain ⟨LX,Cm,rfl,_⟩:=xB.own.slice
   refine WL.ai (aT (sz:=11) (bytes:=168) rfl Tryz.underlying80 (show Tryz.prog.info? 140=some Tryz.t140 by kernel_rfl) rfl rfl rfl rfl (by decide) rfl rfl xB.own (bz (len:=1) (sz:=11) iA rfl) (by simp [Value.oneCell']) (by have:=hlen;simp only [maxLen,List.length_append,List.length_singleton,List.nil_append] at *;omega) (by have:=hlen;simp only [List.length_append,List.length_singleton,List.nil_append] at *;omega)) rfl rfl rfl ?_
   rintro v11 x8 ⟨AW,dA,GF⟩
   have K2:=xB.snoc (b:=ll 90 ot []) (iz _ _ _ _) (fun _ e=>(je e).elim) (fun _ e=>(je e).elim) Dh.1.size AW dA GF
   refine Go ?_;refine Gn ?_;refine G2 ?_;refine Gs [(4,_)] ?_;refine Gt ?_
   have O1:Ext No iD iD:=.refl _ _
   have AA:=k.IJ o5 KY (fun q hq=>KZ q (K0 q hq)) dA (fun q hq=>xB.vf q hq)
   exact ⟨⟨B2++[ll 90 ot []],K2,by rw [List.map_append,x9];rfl⟩,L2,P9,AA,rfl,Gl,Dh.1.trans' dA (fun q hq e=>by have:=xB.vf q e;omega),Dh.2⟩
 · have hr:fU ⟨81,w,n,p,t,o,ps.map aX.pl,mx⟩ (⟨ot,EK,Ax,Co,Dx,Dy⟩,out,some (ec,et))=(⟨fp ot,false,Ax,Co,Dx,if fp ot=73 then [] else (if fp ot=69 then [] else Dy)⟩,(out++[oq ec et])++[{ kind:=90,status:=fp ot }]):=rfl
   rw [hr]
   clear hr
   refine calls [(0,_),(1,_)] Tryz.func58 rfl Tryz.ntmps58 rfl ⟨rfl,rfl,trivial⟩ ?_
   refine WC.sr ?_;refine WL.ai (aB rfl) rfl rfl rfl ?_
   rintro _ h1 ⟨b3,rfl,bO,aQ,ay⟩
   have k1:=k.aq ay
   have hb:=k1.se.bq
   have lb:=aj k.se.bq
   have n3:¬ b3=A.bs:=by omega
   refine Go ?_;refine G3 ?_;refine WL.call (vs:=[_]) rfl Tryz.call99 rfl (kr _ k1) rfl rfl rfl ?_
   rintro _ hz ⟨rfl,_⟩
   subst hz
   refine Go ?_;refine Gs [(0,_),(3,_),(10,_)] ?_
   refine aJ 1 2 ?_ TT.mk
   all_goals (refine ax 2 ?_)
   refine WC.skip ?_;refine Gn ?_;refine WC.seq ?_;refine WC.block ?_;refine G2 ?_;refine WL.ld rfl (by first | exact aa aQ rfl | assumption) rfl rfl rfl (Go ?_)
   refine Gs [(0,_),(3,_),(11,_)] ?_
   refine aJ 3 4 ?_ TT.mk
   all_goals (refine ax 4 ?_)
   refine G2 ?_;refine WL.ld rfl (by first | exact aa aQ rfl | assumption) rfl rfl rfl (Go ?_)
   refine Gs [(0,_),(3,_),(18,_)] ?_
   refine aJ 5 6 ?_ TT.mk
   all_goals (refine ax 6 ?_)
   refine G2 ?_;refine WL.step (ae rfl) rfl rfl rfl (Go ?_);refine WL.ld rfl (by first | exact aa hb rfl | assumption) rfl rfl rfl (Go ?_)
   refine Gs [(0,_),(3,_),(28,_)] ?_
   refine aJ 7 8 ?_ TT.mk
   all_goals (refine ax 8 ?_)
   refine WC.skip ?_;refine Gn ?_;refine G2 ?_;refine WL.step (an Tryz.isAgg42 Tryz.sizeOf42 rfl rfl (by exact At.au aQ)) rfl rfl rfl ?_
   refine WL.call (vs:=[_,_]) rfl Tryz.call101 rfl (kd _ ay) rfl rfl rfl ?_
   rintro _ h2 ⟨u2,e2,rfl,v2,B2,c2,heq,O2,x9,L2,P2,KY,KZ,k2,AR,AU,t2⟩
   obtain ⟨q1,q2⟩:=qz heq
   subst q1 q2
   dsimp only [fY] at x9 k2 AR AU ⊢
   subst AR
   subst AU
   have bX:=t2.1.obj aQ (k1.not aQ (by decide) (by decide) (by decide))
   refine Go ?_;refine Gs [(0,_),(3,_),(5,_),(6,_)] ?_;refine WC.sr ?_;refine WL.ai (av (fun w=>Tryz.zeroValue169 w)) rfl rfl rfl ?_
   rintro _ h3 ⟨b7,rfl,gb,bn,aP⟩
   have hbK:=aP.obj bX aO
   have kK:=k2.aq aP
   have OK:=(O2.mono ay.size).aq aP
   have TK:=((Tn.no (A:=A) (P:=P) ay).trans t2).trans (Tn.no aP)
   refine Gn ?_;refine G3 ?_;refine WL.step (fQ ⟨_,Tryz.underlying171,fun _ h=>by cases h⟩ rfl) rfl rfl rfl ?_
   have KS:Er h3:=((er.aq ay).ext t2.1 (fun e=>h0 e)).aq aP
   have hv:=c2 (by simp)
   subst hv
   obtain rfl:=O2.sB
   obtain rfl:out=[]:=x9.symm
   refine WL.call (vs:=[_,_]) rfl Tryz.call102 rfl (o6 ec et KS bn) rfl rfl rfl ?_
   rintro _ h4 ⟨rfl,bx,aW⟩
   have X4:Ext No h2 h4:=aP.trans' aW (fun q hq e=>by omega)
   have k4:=k2.aq X4
   have bP:=X4.obj bX aO
   have KT:b7 ≠ A.bs:=fun e=>by have:=aj k2.se.bq;omega
   refine Gn ?_
   refine aJ 9 10 ?_ TT.mk
   all_goals (refine ax 9 ?_)
   refine G2 ?_;refine WL.ld rfl (by first | exact aa bP rfl | assumption) rfl rfl rfl (Go ?_)
   refine WL.step (ae rfl) rfl rfl rfl (Go ?_);refine WL.az (aC Tryz.sizeOf4 rfl rfl k4.se.bq (Nat.le_of_ble_eq_true rfl) rfl rfl) rfl rfl ?_
   rintro _ h5 ⟨bT,aN⟩
   obtain ⟨k5,t5⟩:=k4.jL aN bT k4.sto
   have eI:=t5.1.obj bP (k4.not bP (by decide) (by decide) (by decide))
   have zm:=aN.obj bx KT
   refine Gn ?_;refine Gs [(0,_),(3,_),(5,_),(7,_)] ?_;refine WC.region (Go ?_);refine WL.step (an Tryz.isAgg169 Tryz.sizeOf169 rfl rfl (by exact At.au zm)) rfl rfl rfl ?_
   refine WL.call (vs:=[_,_]) rfl Tryz.call103 rfl (sw k5 ec et) rfl rfl rfl ?_
   rintro _ h6 ⟨⟨b6,rfl,AV,KU,KV⟩,⟨P6,LW,k6,KW,t6⟩,aM⟩
   have fB:=t6.1.obj eI (k5.not eI (by decide) (by decide) (by decide))
   refine WL.ai (aw (vs:=[_]) (cs:=[_,_,_,_,_,_,_,_,_,_,_]) (fun | [.agg ⟨[a0,a1,a2,a3,a4,a5,a6,a7,a8,a9,gd]⟩]=>[a0,a1,a2,a3,a4,a5,a6,a7,a8,a9,gd] | _=>[]) Tryz.underlying80 rfl rfl (by kernel_rfl)) rfl rfl rfl ?_
   rintro _ h7 ⟨b8,rfl,Ez,bZ,bh⟩
   refine WL.ai (aT (sz:=11) (bytes:=168) rfl Tryz.underlying80 (show Tryz.prog.info? 140=some Tryz.t140 by kernel_rfl) rfl rfl rfl rfl (by decide) rfl rfl (Own.nil _ _ 11) (bz (len:=1) (sz:=11) bZ rfl) AV.one (by simp only [maxLen];omega) (by omega)) rfl rfl rfl ?_
   rintro v8 h8 ⟨iI,bD,pM⟩
   have X8:Ext No h6 h8:=bh.trans (bD.mono fun _ _ e=>by cases e)
   have hbK:=X8.obj fB aO
   have kK:=k6.aq X8
   have T4:=((Tn.no (A:=A) (P:=P) ay).trans t2).trans (Tn.no X4)
   have T5:=T4.trans t5
   have TK:=(T5.trans t6).trans (Tn.no X8)
   have s5:=T5.1.size
   have s7:=bh.size
   have s6:=t6.1.size
   have OK:cB h h8 v8 ([]++[b6]):=(cB.nil h h7).snoc (AV.ext bh fun _ _=>aO) (fun z hz=>by have:=KV z hz;omega) (fun _ _ e=>by cases e) (by omega) iI bD pM
   refine Go ?_;refine Gn ?_;refine G3 ?_;refine WL.ld rfl (by first | exact aa hbK rfl | assumption) rfl rfl rfl (Go ?_)
   refine Gs [(0,_),(5,_),(56,_)] ?_
   refine aJ 11 12 ?_ TT.mk
   all_goals (refine ax 11 ?_)
   refine WC.region (Go ?_);refine WL.call (vs:=[_]) rfl Tryz.call100 rfl (ks _ _ _ _ _ _ _ kK) rfl rfl rfl ?_
   rintro _ h9 ⟨rfl,⟨P9,K0,k9,Gl,t9⟩,cg⟩
   have O9:=OK.ext cg (fun q hq=>by subst hq;exact k.se.pm.lt)
   refine WL.ai (aw (vs:=[_]) (cs:=[_,_,_,_,_,_,_,_,_,_,_]) (fun | [.agg ⟨[a0,a1,a2,a3,a4,a5,a6,a7,a8,a9,gd]⟩]=>[a0,a1,a2,a3,a4,a5,a6,a7,a8,a9,gd] | _=>[]) Tryz.underlying80 rfl rfl (by kernel_rfl)) rfl rfl rfl ?_
   rintro _ iD ⟨Ny,rfl,K1,iA,cG⟩
   have xB:=O9.aq cG
   have o5:=k9.aq cG
   have Dh:=(TK.trans t9).trans (Tn.no (A:=A) (P:=P9) cG)
   obtain ⟨LX,Cm,rfl,_⟩:=xB.own.slice
   refine WL.ai (aT (sz:=11) (bytes:=168) rfl Tryz.underlying80 (show Tryz.prog.info? 140=some Tryz.t140 by kernel_rfl) rfl rfl rfl rfl (by decide) rfl rfl xB.own (bz (len:=1) (sz:=11) iA rfl) (by simp [Value.oneCell']) (by have:=hlen;simp only [maxLen,List.length_append,List.length_singleton,List.nil_append] at *;omega) (by have:=hlen;simp only [List.length_append,List.length_singleton,List.nil_append] at *;omega)) rfl rfl rfl ?_
   rintro v11 x8 ⟨AW,dA,GF⟩
   have K2:=xB.snoc (b:=ll 90 (fp ot) []) (iz _ _ _ _) (fun _ e=>(je e).elim) (fun _ e=>(je e).elim) Dh.1.size AW dA GF
   refine Go ?_;refine Gn ?_;refine G2 ?_;refine Gs [(4,_)] ?_;refine Gt ?_
   have AA:=k.IJ o5 KY (fun q hq=>KZ q (LW q (K0 q hq))) dA (fun q hq=>xB.vf q hq)
   exact ⟨⟨([]++[b6])++[ll 90 (fp ot) []],K2,by rw [List.map_append,List.map_append,List.map_nil,List.map_singleton,KU];rfl⟩,L2,P9,AA,rfl,by rw [Gl,KW],Dh.1.trans' dA (fun q hq e=>by have:=xB.vf q e;omega),Dh.2⟩
end
theorem uN (s:SP) (f:gF):(dz s f).2.1.length≤1000000:=by
 have ht:∀ (s:SP) (v:gi),(cK s v).2.1.length≤1:=fun s v=>by unfold cK;split <;> (try split) <;> simp
 unfold dz
 dsimp only
 split
 · simp
 · split
   · have:=(gX (bj f.text) s.cnt (ps:=[]) (by simp)).1
     simp [cU]
     omega
   · exact Nat.le_trans (ht _ _) (by omega)
section
variable {h h':ah} {A:Ad} {st:Int} {sk ov:Bool} {cnt:Int} {L:List (List UInt8 × gR)} {P:List (List UInt8 × ez)}
theorem K3 (er:Er h) (h0:¬ Mu A P 0) (k:Ss h A st sk ov cnt L P) (lm:jB (cw st sk ov cnt L P)) (f:Fm) (hf:f.ok h) (hF:∀ q,f.F q→¬ Mu A P q) (fl:gW f) :
   ag Tryz.prog 58 ⟨[.pointer (some ⟨A.bs,0,none⟩),.agg ⟨f.cells⟩]⟩ h (JF h A P (iy (cw st sk ov cnt L P) f.p)):=by
 by_cases ha:ov=true∨f.kind=88∨f.kind=83∨sk=true
 · exact KQ k f hf ha
 · simp only [not_or] at ha
   obtain ⟨a1,a2,a3,a4⟩:=ha
   obtain rfl:ov=false:=by simpa using a1
   obtain rfl:sk=false:=by simpa using a4
   have e:iy (cw st false false cnt L P) f.p=fU f.p (eC (cw st false false cnt L P) f.p):=by
     unfold iy
     rw [if_neg (show ¬ (cw st false false cnt L P).ov=true from by simp [cw]),if_neg (show ¬ f.p.kind=88 from a2),if_neg (show ¬ f.p.kind=83 from a3),if_neg (show ¬ (cw st false false cnt L P).sk=true from by simp [cw])]
   rw [e]
   by_cases AQ:f.kind=81
   · have eq : eC (cw st false false cnt L P) f.p = dz (cw st false false cnt L P) f.p := by
       unfold eC
       rw [show f.p.kind=81 from AQ]
       rfl
     rw [eq]
     exact KX er h0 k f hf AQ (uN _ _) fun g x=>GB (k.aq x) lm f (hf.aq x) fl AQ
   · exact KR er h0 k f hf ⟨a2,a3,AQ⟩ fun g x=>GA (k.aq x) lm f (hf.aq x) hF fl
end
def qW (h0 h:ah) (A:Ad) (s:SP):Prop:=∃ L P,Ss h A s.st s.sk s.ov s.cnt L P∧qh L=s.L∧fZ P=s.P∧(∀ q,Mu A P q→h0.size≤q)∧∀ q,A.z q→h0.size≤q
def Bh (h0 h:ah) (q:Nat):Prop:=h0.size≤q∧∀ cs T,h[q]?=some (.cells cs T (0,0))→T=153∨T=104∨T=273
theorem AX {h0 h:ah} {v:Value} {T:TypeId} {sz n:Nat} {xs:List Value} (ho:Own h v T sz n xs) (hT:¬ (T=153∨T=104∨T=273)):∀ q,v.ownBlock=some q→¬ Bh h0 h q:=fun q hq e=>by
 obtain ⟨_,⟨rfl,_⟩ | ⟨g,cap,cur,rfl,hg,_⟩⟩:=ho
 · cases hq
 · simp only [Value.ownBlock,Option.some.injEq] at hq
   subst hq
   exact hT (e.2 _ _ hg)
theorem Er.pos {h:ah} (e:Er h):0 < h.size:=by
 have:=e 0 _ rfl
 unfold cell at this
 rcases hq:h[0]? with _ | o
 · simp [hq] at this
 · exact aj hq
section
variable {h0 h h':ah} {A:Ad} {s:SP}
theorem qW.aq (k:qW h0 h A s) (x:Ext No h h'):qW h0 h' A s:=by
 obtain ⟨L,P,k,e1,e2,e3,e4⟩:=k
 exact ⟨L,P,k.aq x,e1,e2,e3,e4⟩
theorem qW.bq (k:qW h0 h A s):h[A.bs]?=some (.cells ⟨[.map (some A.ms),.pointer (some ⟨A.bp,0,none⟩),.pointer (some ⟨A.be,0,none⟩),.int .u8 s.st,.bool s.sk,.bool s.ov]⟩ 153 (0,0)):=by
 obtain ⟨L,P,k,_⟩:=k
 exact k.se.bq
abbrev ph:SP:=⟨73,false,false,0,[],[]⟩
theorem wa:dV 0 ph:=⟨(fun _ h=>nomatch h),(fun _ h=>nomatch h),⟨Int.le_refl _,Int.le_refl _⟩,Nat.le_refl _⟩
theorem IK {be me:Nat} (hb:h[be]?=some (.cells ⟨[.map (some me),In 0]⟩ 104 (0,0))) (hm:Mp .string St h me ([]:List (List UInt8 × Value))) (x:Ext No h0 h) (g1:h0.size≤be) :
   ag Tryz.prog 49 ⟨[.pointer (some ⟨be,0,none⟩)]⟩ h fun u h'=>∃ A:Ad,u=.pointer (some ⟨A.bs,0,none⟩)∧qW h0 h' A ph∧Ext No h h':=by
 refine (zk (some ⟨be,0,none⟩)).mono fun u h' ⟨bs,ms,bp,mp,e,hbs,hms,hbp,hmp,l1,l2,l3,l4,hx⟩=>?_
 have lm:=hm.lt
 have s0:=x.size
 refine ⟨⟨bs,ms,bp,mp,be,me,fun _=>False⟩,e,⟨[],[],⟨⟨hbs,hms,hbp,hmp,hx.obj hb aO,hm.ext hx aO,by dsimp only;omega,by dsimp only;omega,by dsimp only;omega⟩,(fun _ h=>nomatch h),(fun _ h=>nomatch h),(fun _ h=>nomatch h),.inl rfl,by decide,⟨(fun _ h=>nomatch h),(fun _ h=>nomatch h),fun _ h=>h.elim⟩⟩,rfl,rfl,fun q hq=>?_,fun _ h=>h.elim⟩,hx⟩
 rcases hq with hq | hq | hq | hq | ⟨r,hr,_⟩
 · have:q=bs:=hq
   omega
 · have:q=ms:=hq
   omega
 · have:q=mp:=hq
   omega
 · have:q=be:=hq
   omega
 · exact nomatch hr
end
noncomputable def AY:List (Int × List UInt8):=tN.flatMap fun y=>jf y.p
theorem uO {k st n m:Int} (h:Kn k) (hs:0≤st∧st≤255):iM (gB k st n m).p :=
 ⟨h,hs,(fun _ h=>nomatch h),by simp [gB,Bk.p],by simp [gB,Bk.p],by simp [gB,Bk.p],by simp [gB,Bk.p],(fun _ h=>nomatch h),by simp [gB,Bk.p],(fun _ h=>nomatch h),by simp [gB,Bk.p],by simp [gB,Bk.p],by simp [gB,Bk.p]⟩
def GG (h:ah) (q:Nat):Prop:=∃ (cs:Array Value) (T:TypeId),h[q]?=some (.cells cs T (0,0))∧T ≠ 153∧T ≠ 104∧T ≠ 273∧T ≠ 189
section
variable {h0 h h':ah} {A:Ad} {st:Int} {sk ov:Bool} {cnt:Int} {L:List (List UInt8 × gR)} {P:List (List UInt8 × ez)} {S:Nat→Prop} {s:SP}
theorem Ss.IL (k:Ss h A st sk ov cnt L P) (x:Ext S h h') (hS:∀ q,S q→A.z q∧GG h q):Ss h' A st sk ov cnt L P:=by
 have e:=k.se
 have nB:∀ {b:Nat} {cs:Array Value} {T:TypeId},h[b]?=some (.cells cs T (0,0))→(T=153∨T=104∨T=273∨T=189)→¬ S b:=fun hb hT e=>by
   obtain ⟨_,cs,T,hq,t1,t2,t3,t4⟩:=hS _ e
   rcases hT with rfl | rfl | rfl | rfl
   · exact bA hq hb t1 rfl
   · exact bA hq hb t2 rfl
   · exact bA hq hb t3 rfl
   · exact bA hq hb t4 rfl
 have nM:∀ {m:Nat} {E:List (List UInt8 × Value)},Mp .string St h m E→¬ S m:=fun hm e=>by
   obtain ⟨_,cs,T,hq,_⟩:=hS _ e
   exact eo hm hq rfl
 exact ⟨⟨x.obj e.bq (nB e.bq (.inl rfl)),e.stm.ext x (nM e.stm),x.obj e.pb (nB e.pb (.inr (.inr (.inr rfl)))),e.pm.ext x (nM e.pm),x.obj e.eb (nB e.eb (.inr (.inl rfl))),e.em.ext x (nM e.em),e.ne⟩,
   fun q hq=>⟨(k.sok q hq).1.ext' x (fun z h0 hz e=>k.zz.l q hq z h0 hz (hS z e).1),(k.sok q hq).2⟩,
   fun q hq=>⟨x.obj (k.pok q hq).1 (nB (k.pok q hq).1 (.inr (.inr (.inl rfl)))),(k.pok q hq).2.1.ext x (fun z hz e=>k.zz.p q hq z hz (hS z e).1),(k.pok q hq).2.2⟩,k.dis,k.sto,k.cok,k.zz.up x.size⟩
theorem Ss.JG (k:Ss h A st sk ov cnt L P) (x:Ext S h h') (hS:∀ q,S q→A.z q∧GG h q) {z':Nat→Prop} (hz:∀ q,z' q→(A.z q∨h.size≤q)∧q < h'.size):Ss h' { A with z:=z' } st sk ov cnt L P:=by
 have k':=k.IL x hS
 exact ⟨k'.se,k'.sok,k'.pok,k'.dis,k'.sto,k'.cok,⟨fun q hq z h0 Hq e=>(hz z e).1.elim (k.zz.l q hq z h0 Hq) (fun y=>by have:=(k.sok q hq).1.lt h0 Hq;omega),fun q hq z Hq e=>(hz z e).1.elim (k.zz.p q hq z Hq) (fun y=>by have:=(k.pok q hq).2.1.lt Hq;omega),fun q hq=>(hz q hq).2⟩⟩
theorem qW.JG (k:qW h0 h A s) (x:Ext S h h') (hS:∀ q,S q→A.z q∧GG h q) {z':Nat→Prop} (hz:∀ q,z' q→(A.z q∨h.size≤q)∧q < h'.size) (x0:h0.size≤h.size):qW h0 h' { A with z:=z' } s:=by
 obtain ⟨L,P,k,e1,e2,e3,e4⟩:=k
 exact ⟨L,P,k.JG x hS hz,e1,e2,e3,fun q hq=>(hz q hq).1.elim (e4 q) (fun y=>by omega)⟩
end
def Dz (h0:ah) (q:Nat):Prop:=h0.size≤q
structure Sq (h0 h:ah) (b fb:Nat) (A:Ad) (s:SP) (bg:Bool) (l:List UInt8) (v w:Value) (M:List ET):Prop where
 bq:h[b]?=some (.cells ⟨MV w (.pointer (some ⟨fb,0,none⟩)) (.pointer (some ⟨A.bs,0,none⟩)) (.slice none 0 0) (In 0) bg s.ov⟩ 96 (0,0))
 fw:Fw h fb bg v l
 se:qW h0 h A s
 sd:Sd h w M
 nv:∀ x∈M,∀ q,x.2.1.ownBlock=some q→v.ownBlock ≠ some q
 z:∀ q,A.z q ↔ (q=b∨q=fb∨v.ownBlock=some q∨w.ownBlock=some q)
 x0:h0.size≤h.size
def Nz (h0 h:ah) (b:Nat) (s:SP) (bg:Bool) (l:List UInt8) (O:List (Int × List UInt8)):Prop:=∃ fb A v w M,Sq h0 h b fb A s bg l v w M∧M.map ET.pl=O
section
variable {h0 h h':ah} {b fb:Nat} {A:Ad} {s:SP} {bg:Bool} {l:List UInt8} {v w:Value} {M:List ET} {O:List (Int × List UInt8)} {S:Nat→Prop}
theorem qA {v:Value} {T:TypeId} {sz n:Nat} {xs:List Value} (ho:Own h v T sz n xs) (hT:T ≠ 153∧T ≠ 104∧T ≠ 273∧T ≠ 189):∀ q,v.ownBlock=some q→GG h q:=fun q hq=>by
 obtain ⟨_,⟨rfl,_⟩ | ⟨g,cap,cur,rfl,hg,_⟩⟩:=ho
 · cases hq
 · simp only [Value.ownBlock,Option.some.injEq] at hq
   subst hq
   exact ⟨_,_,hg,hT⟩
end
structure Fm.qB (b:Fm):Prop where
 oids:b.oids.length≤50
 formats:b.formats.length≤50
 results:b.results.length≤50
 params:b.params.length≤50
 cells:∀ c∈b.params,c.bytes.length≤300
 name:b.name.length≤300
 portal:b.portal.length≤300
 text:b.text.length≤1000
theorem NA {h h0:ah} (c:aX) (hk:c.ok h0):ag Tryz.prog 47 ⟨[.agg ⟨c.cells⟩]⟩ h fun u h'=>u=.bool (decide (300 < c.bytes.length))∧Ext No h h':=by
 obtain ⟨nl,v,bs⟩:=c
 obtain ⟨A,cc,e,_⟩:=hk.1
 simp only at e
 subst e
 dsimp only [aX.cells]
 refine calls [(0,_)] Tryz.func47 rfl Tryz.ntmps47 rfl ⟨rfl,trivial⟩ ?_
 refine WC.sr ?_;refine WL.ai (aB rfl) rfl rfl rfl ?_
 rintro _ h1 ⟨b1,rfl,bO,aQ,ay⟩
 refine Go ?_;refine G2 ?_;refine Ld ?_;refine Go ?_;refine Gs [(2,_)] ?_;refine Gt ?_
 exact ⟨congrArg Value.bool (decide_eq_decide.2 (by omega)),ay⟩
def nL (b:Fm):Bool:=decide ((b.oids.length≤50∧b.formats.length≤50∧b.results.length≤50∧b.params.length≤50)∧(b.params.any fun c=>decide (300 < c.bytes.length))=false∧b.name.length≤300∧b.portal.length≤300∧b.text.length≤1000)
theorem uP {b:Fm} (h:nL b=true):b.qB:=by
 obtain ⟨⟨h1,h2,h3,h4⟩,h5,h6,h7,h8⟩:=of_decide_eq_true h
 exact ⟨h1,h2,h3,h4,fun c hc=>by simpa using List.any_eq_false.1 h5 c hc,h6,h7,h8⟩
theorem qC {h:ah} (b:Fm) (hb:b.ok h):ag Tryz.prog 22 ⟨[.agg ⟨b.cells⟩]⟩ h fun u h'=>u=.bool (nL b)∧Ext No h h':=by
 obtain ⟨⟨ho,_⟩,⟨hf,_⟩,⟨hs,_⟩,hr⟩:=hb
 obtain ⟨k,w,n,p,t,vo,lo,vf,lf,vs,ls,vp,lp,mx⟩:=b
 dsimp only at ho hf hs hr
 obtain ⟨LY,qT,qS⟩:=hr
 have hrm:lp.length≤maxLen:=by have:=qT.1;unfold reachBytes at this;unfold maxLen;omega
 obtain ⟨Ao,co,rfl,_⟩:=id ho
 obtain ⟨Af,cf,rfl,_⟩:=id hf
 obtain ⟨As,cs,rfl,_⟩:=id hs
 obtain ⟨Ap,cp,rfl,_⟩:=id LY
 dsimp only [Fm.cells]
 refine calls [(0,_)] Tryz.func22 rfl Tryz.ntmps22 rfl ⟨rfl,trivial⟩ ?_
 refine WC.sr ?_;refine WL.ai (aB rfl) rfl rfl rfl ?_
 rintro _ g1 ⟨b1,rfl,bO,aQ,IM⟩
 refine Go ?_;refine G3 ?_;refine Ld ?_;refine Go ?_
 refine bG 7 (Hb.mk fun hb=>?_) (Hb.mk fun hb=>?_)
 all_goals (refine Gg ?_;first | refine WL.pass rfl rfl rfl ?_ | refine Ld ?_)
 all_goals (refine Gg ?_;refine Go ?_;first | refine bG 13 ?_ TT.mk | (refine bG 13 (Hb.mk fun hb=>?_) (Hb.mk fun hb=>?_)))
 all_goals (refine Gg ?_;first | refine WL.pass rfl rfl rfl ?_ | refine Ld ?_)
 all_goals (refine Gg ?_;refine Go ?_;first | refine bG 19 ?_ TT.mk | (refine bG 19 (Hb.mk fun hb=>?_) (Hb.mk fun hb=>?_)))
 all_goals (refine Gg ?_;first | refine WL.pass rfl rfl rfl ?_ | refine Ld ?_)
 all_goals (refine Gg ?_;refine Go ?_;refine Gs [(1,_),(24,_)] ?_;first | refine aJ 1 2 ?_ TT.mk | (refine aJ 1 2 (Hb.mk fun hb=>?_) (Hb.mk fun hb=>?_)))
 all_goals try (
 refine ax 1 ?_
 all_goals (refine G2 ?_;refine Gt ?_)
 all_goals (
  first
   | (refine ⟨congrArg Value.bool (decide_eq_false fun z=>?_).symm,?_⟩
      · obtain ⟨⟨z1,z2,z3,z4⟩,z5,z6,z7,z8⟩:=z
        dsimp only at z1 z2 z3 z4 z5 z6 z7 z8
        first | omega | (rw [Hy] at z5;cases z5)
      · first | exact gm | exact IM)
   | (refine ⟨congrArg Value.bool (decide_eq_decide.2 ⟨fun z=>⟨⟨?_,?_,?_,?_⟩,Hy,?_,?_,?_⟩,fun z=>?_⟩),gm⟩
      all_goals first | (obtain ⟨⟨z1,z2,z3,z4⟩,z5,z6,z7,z8⟩:=z;dsimp only at z1 z2 z3 z4 z6 z7 z8;omega) | (show _≤_;(try dsimp only);omega)))
 skip)
 all_goals (refine ax 2 ?_)
 refine WC.skip ?_;refine Gn ?_;refine G3 ?_;refine WL.ld rfl (by first | exact aa aQ rfl | assumption) rfl rfl rfl ?_
 refine WL.call (vs:=[_,_]) rfl Tryz.call46 rfl (vG lp (fun c=>decide (300 < c.bytes.length)) Tryz.call47 (fs:=[]) (us:=[]) (LY.aq IM) hrm (fun x hx h' hx'=>NA x (qS x hx))) rfl rfl rfl ?_
 rintro _ g2 ⟨rfl,aH⟩
 have bH:=aH.obj aQ aO
 have gm:=IM.trans aH
 cases Hy:lp.any fun c=>decide (300 < c.bytes.length)
 all_goals (refine Gn ?_;refine aJ 3 4 ?_ TT.mk)
 all_goals try (
 refine ax 3 ?_
 refine G2 ?_;refine Gs [(2,_)] ?_;refine Gt ?_
 first
  | (refine ⟨congrArg Value.bool (decide_eq_false fun z=>?_).symm,?_⟩
     · obtain ⟨⟨z1,z2,z3,z4⟩,z5,z6,z7,z8⟩:=z
       dsimp only at z1 z2 z3 z4 z5 z6 z7 z8
       first | omega | (rw [Hy] at z5;cases z5)
     · first | exact gm | exact IM)
  | (refine ⟨congrArg Value.bool (decide_eq_decide.2 ⟨fun z=>⟨⟨?_,?_,?_,?_⟩,Hy,?_,?_,?_⟩,fun z=>?_⟩),gm⟩
     all_goals first | (obtain ⟨⟨z1,z2,z3,z4⟩,z5,z6,z7,z8⟩:=z;dsimp only at z1 z2 z3 z4 z6 z7 z8;omega) | (show _≤_;(try dsimp only);omega))
 skip)
 all_goals (refine ax 4 ?_)
 refine WC.skip ?_;refine Gn ?_;refine Gs [(1,_)] ?_;refine G2 ?_;refine WL.ld rfl (by first | exact aa bH rfl | assumption) rfl rfl rfl (Go ?_)
 refine bG 32 (Hb.mk fun hb=>?_) (Hb.mk fun hb=>?_)
 all_goals (refine Gg ?_;first | refine WL.pass rfl rfl rfl ?_ | (refine WL.ld rfl (by first | exact aa bH rfl | assumption) rfl rfl rfl ?_))
 all_goals (refine Gg ?_;refine Go ?_;first | refine bG 38 ?_ TT.mk | (refine bG 38 (Hb.mk fun hb=>?_) (Hb.mk fun hb=>?_)))
 all_goals (refine Gg ?_;first | refine WL.pass rfl rfl rfl ?_ | (refine WL.ld rfl (by first | exact aa bH rfl | assumption) rfl rfl rfl ?_))
 all_goals (refine Gg ?_;refine Go ?_;refine Gs [(2,_)] ?_;refine Gt ?_)
 all_goals (
  first
   | (refine ⟨congrArg Value.bool (decide_eq_false fun z=>?_).symm,?_⟩
      · obtain ⟨⟨z1,z2,z3,z4⟩,z5,z6,z7,z8⟩:=z
        dsimp only at z1 z2 z3 z4 z5 z6 z7 z8
        first | omega | (rw [Hy] at z5;cases z5)
      · first | exact gm | exact IM)
   | (refine ⟨congrArg Value.bool (decide_eq_decide.2 ⟨fun z=>⟨⟨?_,?_,?_,?_⟩,Hy,?_,?_,?_⟩,fun z=>?_⟩),gm⟩
      all_goals first | (obtain ⟨⟨z1,z2,z3,z4⟩,z5,z6,z7,z8⟩:=z;dsimp only at z1 z2 z3 z4 z6 z7 z8;omega) | (show _≤_;(try dsimp only);omega)))
theorem K4 {h h0:ah} (f:Fm) (hf:f.ok h0) (x:Ext No h0 h):ag Tryz.prog 21 ⟨[.agg ⟨f.cells⟩]⟩ h fun u h'=>u=.bool (!nL f)∧Ext No h h':=by
 have kp:=fun h' (y:Ext No h h')=>qC f ((hf.aq x).aq y)
 obtain ⟨⟨e1,_⟩,⟨e2,_⟩,⟨e3,_⟩,e4,_⟩:=hf
 obtain ⟨fk,w,n,p,t,vo,o,vf,fs,vs,rs,vp,ps,mx⟩:=f
 dsimp only at e1 e2 e3 e4
 obtain ⟨_,_,rfl,_⟩:=e1
 obtain ⟨_,_,rfl,_⟩:=e2
 obtain ⟨_,_,rfl,_⟩:=e3
 obtain ⟨_,_,rfl,_⟩:=e4
 dsimp only [Fm.cells] at kp ⊢
 refine calls [(0,_)] Tryz.func21 rfl Tryz.ntmps21 rfl ⟨rfl,trivial⟩ ?_
 refine WC.sr ?_;refine WL.ai (aB rfl) rfl rfl rfl ?_
 rintro _ h1 ⟨b1,rfl,bO,aQ,ay⟩
 refine Go ?_;refine WC.sr ?_;refine WL.step (an Tryz.isAgg42 Tryz.sizeOf42 rfl rfl (by exact At.au aQ)) rfl rfl rfl ?_
 refine WL.call (vs:=[_]) rfl Tryz.call22 rfl (kp _ ay) rfl rfl rfl ?_
 rintro _ h2 ⟨rfl,aH⟩
 refine Go ?_;refine Gs [(2,_)] ?_;refine Gt ?_
 exact ⟨rfl,ay.trans aH⟩
theorem qD {h:ah} {v:Value} (l:List Fm) (p:Fm→Bool) {fk:Nat} {fs us:List Value} (hcf:∀ (args:Array Value) (w:World),(callFunc fk args).run Tryz.prog w=.ok (.enter fk args) w) (hr:Rd h v 10 l.length (l.flatMap Fm.cells)) (hm:l.length≤maxLen)
   (hp:∀ x∈l,∀ h',Ext No h h'→ag Tryz.prog fk ⟨fs++[.agg ⟨Fm.cells x⟩]++us⟩ h' fun u h''=>u=.bool (p x)∧Ext No h' h'') :
   ag Tryz.prog 45 ⟨[v,.func (.func fk) ⟨fs⟩ ⟨us⟩]⟩ h fun u h'=>u=In (jU p l)∧Ext No h h':=by
 obtain ⟨A,c,rfl,_⟩:=id hr
 unfold maxLen at hm
 refine calls [(0,_),(1,_)] Tryz.func45 rfl Tryz.ntmps45 rfl ⟨rfl,rfl,trivial⟩ ?_
 refine G2 ?_;refine G3 ?_;refine WC.block ?_;refine WC.bC (X:=Nat) (fun x=>([(8,In (x:Int))]:Fr)) [(0,_),(1,_),(7,_)] (fun k h'=>Ext No h h'∧k≤l.length∧∀ x∈l.take k,p x=false) (fun k=>l.length - k) (0) ⟨rfl,rfl,rfl,rfl,trivial⟩ (by exact ⟨.refl _ _,Nat.zero_le _,by simp⟩) ?_
 rintro k h1 ⟨ay,hk,hn⟩
 refine WC.sub [(8,_),(0,_),(1,_),(7,_)] ⟨rfl,rfl,rfl,rfl,trivial⟩ ?_;refine G2 ?_;refine WC.seq ?_
 refine aJ 1 2 (Hb.mk fun hb=>?_) (Hb.mk fun hb=>?_)
 all_goals try (
 refine ax 1 ?_
 refine WC.skip ?_
 skip)
 all_goals try (
 refine ax 2 ?_
 refine WC.exit ?_
 repeat' (with_reducible first | refine aU ?_ | refine aG rfl ?_ | refine aI ?_ | refine aL ?_ | refine aS ?_)
 refine Br.out (i:=1000) ?_
 skip)
 all_goals (refine Gn ?_;first | refine Br.ab ?_ | refine WC.seq ?_)
 all_goals (first | refine Br.ab ?_ | refine WC.block ?_)
 all_goals (first | refine Br.ab ?_ | refine WC.sr ?_)
 all_goals (refine Go ?_;first | refine Br.ab ?_ | refine WC.sr ?_)
 all_goals (first | refine Br.ab ?_ | refine WL.step (ak rfl) rfl rfl rfl ?_)
 all_goals (first | refine Br.ab ?_ | refine WL.step (ak rfl) rfl rfl rfl ?_)
 all_goals (
  first
    | (refine Br.ab ?_)
    | (obtain ⟨b,o,hA,hbL,hat⟩:=Rd.at_ (hr.aq ay) (by omega)
       obtain ⟨y,hy⟩:∃ y,l[k]?=some y:=⟨_,List.getElem?_eq_getElem (by omega)⟩
       have hc:At h1 b (o+k * 10) (Fm.cells y):=At.elem Fm.len hat hy))
 all_goals (first | refine Br.ab ?_ | refine WL.step (ak rfl) rfl rfl rfl ?_)
 all_goals (first | refine Br.ab ?_ | (refine WL.step (aF Tryz.underlying22 Tryz.sizeOf42 rfl rfl rfl (by omega) (by first | rfl | assumption)) rfl rfl rfl ?_))
 all_goals (first | refine Br.ab ?_ | (refine WL.step (an Tryz.isAgg42 Tryz.sizeOf42 rfl rfl (by assumption)) rfl rfl rfl ?_))
 all_goals (
  first
    | (refine Br.ab ?_)
    | (refine WL.dT (vs:=[_]) rfl rfl hcf rfl (hp y (List.mem_of_getElem? hy) h1 ay) rfl rfl rfl ?_
       rintro _ h2 ⟨rfl,aH⟩))
 all_goals (first | refine Br.ab ?_ | cases hpy:p y)
 all_goals (refine Gn ?_;first | refine Br.ab ?_ | refine Gs [(0,_),(1,_),(5,_),(7,_),(8,_),(16,_)] ?_)
 all_goals (first | refine Br.ab ?_ | refine aJ 3 4 ?_ TT.mk)
 all_goals try (
 refine ax 3 ?_
 refine G2 ?_;refine Gs [(4,_)] ?_;refine Gt ?_
 first | exact ⟨by rw [cD (by rw [List.take_of_length_le (by omega)] at hn;exact hn)],ay⟩ | exact ⟨by rw [di hy hpy hn],ay.trans aH⟩
 skip)
 all_goals try (
 refine ax 4 ?_
 refine WC.skip ?_
 skip)
 all_goals (refine Gn ?_;first | refine Br.ab ?_ | refine WC.region ?_)
 all_goals (refine Go ?_;first | refine Br.ab ?_ | (exact ⟨k+1,⟨rfl,rfl,rfl,rfl,trivial⟩,(by exact ⟨ay.trans aH,by omega,dq hn hy hpy⟩),(by omega)⟩))
 try (refine Br.mk (i:=1000) ?_)
 refine Gn ?_;refine Gs [] ?_;refine G2 ?_;refine Gt ?_
 first | exact ⟨by rw [cD (by rw [List.take_of_length_le (by omega)] at hn;exact hn)],ay⟩ | exact ⟨by rw [di hy hpy hn],ay.trans aH⟩
theorem GH {h:ah} {v:Value} (l:List Fm) (p:Fm→Bool) {fk:Nat} {fs us:List Value} (hcf:∀ (args:Array Value) (w:World),(callFunc fk args).run Tryz.prog w=.ok (.enter fk args) w) (hr:Rd h v 10 l.length (l.flatMap Fm.cells)) (hm:l.length≤maxLen)
   (hp:∀ x∈l,∀ h',Ext No h h'→ag Tryz.prog fk ⟨fs++[.agg ⟨Fm.cells x⟩]++us⟩ h' fun u h''=>u=.bool (p x)∧Ext No h' h'') :
   ag Tryz.prog 20 ⟨[v,.func (.func fk) ⟨fs⟩ ⟨us⟩]⟩ h fun u h'=>u=.bool (l.any p)∧Ext No h h':=by
 refine calls [(0,_),(1,_)] Tryz.func20 rfl Tryz.ntmps20 rfl ⟨rfl,rfl,trivial⟩ ?_
 refine G2 ?_;refine G2 ?_;refine WL.call (vs:=[_,_]) rfl Tryz.call45 rfl (qD l p hcf hr hm hp) rfl rfl rfl ?_
 rintro _ h1 ⟨rfl,ay⟩
 refine WL.step (dm rfl rfl) rfl rfl rfl (Go ?_);refine Gs [(4,_)] ?_;refine Gt ?_
 exact ⟨by rw [ee],ay⟩
theorem qE {h:ah} {v:Value} (L:List Fm) (k:FK h v L) (many:Int):ag Tryz.prog 6 ⟨[v,In many]⟩ h fun u h'=>(∃ x,u=.bool x∧(x=true→(L.length:Int)≤many∧∀ f∈L,f.qB))∧Ext No h h':=by
 obtain ⟨hr,hl,ok⟩:=k
 have kh:=GH L (fun f => !nL f) Tryz.call21 (fs:=[]) (us:=[]) hr hl (fun x hx h' hx'=>K4 x (ok x hx) hx')
 obtain ⟨A,c,rfl,_⟩:=id hr
 unfold maxLen at hl
 refine calls [(0,_),(1,_)] Tryz.func6 rfl Tryz.ntmps6 rfl ⟨rfl,rfl,trivial⟩ ?_
 refine G2 ?_;refine G2 ?_
 refine bG 9 (Hb.mk fun hb=>?_) (Hb.mk fun hb=>?_)
 all_goals (refine Gg ?_)
 all_goals (
  first
    | (refine WL.pass rfl rfl rfl ?_)
    | (refine WL.call (vs:=[_,_]) rfl Tryz.call20 rfl (kh) rfl rfl rfl ?_
       rintro _ h2 ⟨rfl,aH⟩))
 all_goals (refine Gg ?_;refine Go ?_;refine Gs [(4,_)] ?_;refine Gt ?_)
 all_goals (
  first
   | (refine ⟨⟨_,rfl,fun z=>?_⟩,aH⟩
      refine ⟨by omega,fun f hf=>uP ?_⟩
      have z2:(L.any fun f => !nL f)=false:=by simpa using z
      simpa using List.any_eq_false.1 z2 f hf)
   | exact ⟨⟨false,rfl,fun z=>by cases z⟩,.refl _ _⟩)
theorem GI {n:Int} (h : -32768≤n∧n≤65535):Rt n 2:=by
 unfold Rt
 rw [show (256:Int) ^ 2=65536 from rfl]
 omega
theorem wb {n:Int} (h : -2147483648≤n∧n≤4294967295):Rt n 4:=by
 unfold Rt
 rw [show (256:Int) ^ 4=4294967296 from rfl]
 omega
theorem DA:Sz 2:=.inr (.inl rfl)
theorem DB:Sz 4:=.inr (.inr rfl)
theorem pj {α:Type} {f:α→List UInt8} {n:Nat} (l:List α) (h:∀ x∈l,(f x).length≤n):(l.flatMap f).length≤l.length * n:=by
 induction l with
 | nil=>simp
 | cons a l ih =>
   have h1:=ih (fun x hx=>h x (by simp [hx]))
   have h2:=h a (by simp)
   simp only [List.flatMap_cons,List.length_append,List.length_cons,Nat.add_mul,Nat.one_mul]
   omega
theorem nN {α:Type} {f:α→List UInt8} {n:Nat} (l:List α) (k:Nat) (h:∀ x∈l,(f x).length≤n):((l.take k).flatMap f).length≤l.length * n :=
 Nat.le_trans (pj _ fun x hx=>h x (List.mem_of_mem_take hx)) (Nat.mul_le_mul_right n (by rw [List.length_take];omega))
theorem j1 {α:Type} {f:α→List UInt8} {l:List α} {k:Nat} {y:α} (hy:l[k]?=some y):(l.take (k+1)).flatMap f=(l.take k).flatMap f++f y:=by
 rw [List.take_add_one,hy,List.flatMap_append]
 simp
def cJ (c:aX):List UInt8:=if c.null then be 4294967295 4 else be c.bytes.length 4++c.bytes
theorem sC {c:aX} (h:c.bytes.length≤1000):(cJ c).length≤1100:=by unfold cJ;split <;> simp [bm] <;> omega
def uQ (h:ah) (v:Value) (h':ah) (v':Value):Prop:=Ext (fun q=>v.ownBlock=some q) h h'∧∀ q,v'.ownBlock=some q→v.ownBlock=some q∨h.size≤q
theorem uQ.fresh {g h h':ah} {v v':Value} (a:uQ h v h' v') (x:Ext No g h) (f:∀ q,v.ownBlock=some q→g.size≤q):Ext No g h'∧∀ q,v'.ownBlock=some q→g.size≤q :=
 ⟨x.trans' a.1 (fun q hq e=>by have:=f q e;omega),fun q e=>(a.2 q e).elim (f q) (fun z=>by have:=x.size;omega)⟩
theorem Ba {h:ah} {v:Value} (l s:List UInt8) (hv:Own h v 5 1 l.length (bu l)) (hl:l.length+s.length≤1000000000) :
   ag Tryz.prog 65 ⟨[v,St s]⟩ h fun u h'=>Own h' u 5 1 (l++s++[0]).length (bu (l++s++[0]))∧uQ h v h' u:=by
 obtain ⟨A0,c0,rfl,_⟩:=id hv.slice
 refine calls [(0,_),(1,_)] Tryz.func65 rfl Tryz.ntmps65 rfl ⟨rfl,rfl,trivial⟩ ?_
 refine G2 ?_;refine G2 ?_;refine WL.ai (gl rfl Tryz.underlying23 Tryz.underlying9 (show Tryz.prog.info? 5=some Tryz.t5 by kernel_rfl) rfl rfl rfl rfl rfl hv (by omega)) rfl rfl rfl ?_
 rintro v1 h1 ⟨fE,ay,Hl,_⟩
 refine WL.ai (aw (vs:=[_]) (cs:=[_]) (fun | [a0]=>[a0] | _=>[]) Tryz.underlying23 rfl rfl (by kernel_rfl)) rfl rfl rfl ?_
 rintro _ h2 ⟨b2,rfl,eS,bH,aH⟩
 refine WL.ai (aT (sz:=1) (bytes:=1) rfl Tryz.underlying23 (show Tryz.prog.info? 5=some Tryz.t5 by kernel_rfl) rfl rfl rfl rfl (by decide) rfl rfl (fE.ext aH (fun _ _=>aO)) (bz bH rfl) (by simp [Value.oneCell']) (by simp only [maxLen];omega) (by omega)) rfl rfl rfl ?_
 rintro v3 h3 ⟨dE,aP,Cl⟩
 refine Go ?_;refine Gs [(4,_)] ?_;refine Gt ?_
 have fM:∀ q,v1.ownBlock=some q→(Value.slice A0 l.length c0).ownBlock=some q∨h.size≤q:=Hl
 have s1:=ay.size
 have s2:=aH.size
 refine ⟨?_,(ay.trans (aH.mono fun _ _ e=>e.elim)).trans' aP (fun q hq e=>(fM q e).elim id (fun z=>by omega)),fun q hq=>Cl.elim (fun e=>fM q (e▸hq)) (fun e=>.inr (by rw [e] at hq;cases hq;omega))⟩
 rw [show (l++s++[(0:UInt8)]).length=l.length+s.length+1 by simp [Nat.add_assoc],show bu (l++s++[0])=bu l++bu s++[Value.int .u8 0] by simp only [bu,List.map_append,List.map_cons,List.map_nil];rfl]
 exact dE
theorem DC {h:ah} {v w:Value} (l:List UInt8) (L:List Int) (hv:Rd h v 1 l.length (bu l)) (hw:Rd h w 1 L.length (ints L)) (hl:l.length≤1000000) (hm:L.length≤100) {s:Nat} (hs:Sz s) (h4:s≤4) (hn:∀ n∈L,Rt n s) :
   ag Tryz.prog 64 ⟨[v,w,In s]⟩ h fun u h'=>Own h' u 5 1 (l++be L.length 2++L.flatMap fun n=>be n s).length (bu (l++be L.length 2++L.flatMap fun n=>be n s))∧Ext No h h'∧∀ q,u.ownBlock=some q→h.size≤q:=by
 obtain ⟨A0,c0,rfl,_⟩:=id hv
 obtain ⟨A,c,rfl,_⟩:=id hw
 have hfl:∀ j,((L.take j).flatMap fun n=>be n s).length≤1000:=fun j=>Nat.le_trans (nN (n:=s) L j fun x hx=>by rw [bm];exact Nat.le_refl _) (Nat.le_trans (Nat.mul_le_mul hm h4) (by decide))
 refine calls [(0,_),(1,_),(2,_)] Tryz.func64 rfl Tryz.ntmps64 rfl ⟨rfl,rfl,rfl,trivial⟩ ?_
 refine G2 ?_;refine G2 ?_;refine WL.call (vs:=[_,_,_]) rfl Tryz.call62 rfl (kI l (L.length:Int) 2 DA (GI (by omega)) hv (by omega)) rfl rfl rfl ?_
 rintro v1 h1 ⟨fE,ay,fM⟩
 refine Go ?_;refine Gs [(0,_),(1,_),(2,_)] ?_;refine G3 ?_;refine WC.block ?_;refine WC.bC (X:=Nat × Value) (fun x=>([(7,In (x.1:Int)),(0,x.2)]:Fr)) [(1,_),(2,_)] (fun y h'=>y.1≤L.length∧Own h' y.2 5 1 (l++be (L.length:Int) 2++(L.take y.1).flatMap fun n=>be n s).length (bu (l++be (L.length:Int) 2++(L.take y.1).flatMap fun n=>be n s))∧Ext No h h'∧∀ q,y.2.ownBlock=some q→h.size≤q) (fun y=>L.length - y.1) ((0,v1)) ⟨rfl,rfl,rfl,rfl,trivial⟩ (by exact ⟨Nat.zero_le _,by simpa using fE,ay,fM⟩) ?_
 rintro ⟨k,u⟩ h2 ⟨hk,dC,aH,eN⟩
 dsimp only at hk dC eN
 refine WC.sub [(0,_),(7,_),(1,_),(2,_)] ⟨rfl,rfl,rfl,rfl,trivial⟩ ?_
 dsimp only
 refine G3 ?_
 refine aJ 1 2 (Hb.mk fun hb=>?_) (Hb.mk fun hb=>?_)
 all_goals try (
 refine ax 1 ?_
 refine WC.skip ?_
 skip)
 all_goals try (
 refine ax 2 ?_
 refine WC.exit ?_
 repeat' (with_reducible first | refine aU ?_ | refine aG rfl ?_ | refine aI ?_ | refine aL ?_ | refine aS ?_)
 refine Br.out (i:=1000) ?_
 skip)
 all_goals (refine Gn ?_;first | refine Br.ab ?_ | refine Gs [(0,_),(1,_),(2,_),(7,_)] ?_)
 all_goals (first | refine Br.ab ?_ | refine WC.seq ?_)
 all_goals (first | refine Br.ab ?_ | refine WC.block ?_)
 all_goals (first | refine Br.ab ?_ | refine WC.region ?_)
 all_goals (
  first
    | (refine Br.ab ?_)
    | (obtain ⟨bL,oL,hA,hbL,hat⟩:=Rd.at_ (hw.aq aH) (by omega)
       obtain ⟨yy,hy⟩:∃ y,L[k]?=some y:=⟨_,List.getElem?_eq_getElem (by omega)⟩
       have hyo:=hn _ (List.mem_of_getElem? hy)
       have hcd:cell h2 ⟨bL,oL+k * 1,none⟩=some (In yy):=hat.get k (ic hy) (by omega)
       have hlj:=hfl k))
 all_goals (first | refine Br.ab ?_ | refine WL.step (ak rfl) rfl rfl rfl ?_)
 all_goals (refine Go ?_;first | refine Br.ab ?_ | (refine WL.step (aF Tryz.underlying39 Tryz.sizeOf3 rfl rfl rfl (by omega) (by first | rfl | assumption)) rfl rfl rfl ?_))
 all_goals (first | refine Br.ab ?_ | (refine WL.ld rfl (by first | exact hcd | assumption) rfl rfl rfl ?_))
 all_goals (refine Go ?_)
 all_goals (
  first
    | (refine Br.ab ?_)
    | (refine WL.call (vs:=[_,_,_]) rfl Tryz.call62 rfl (kI _ yy s hs hyo dC.rd (by simp only [List.length_append,bm];omega)) rfl rfl rfl ?_
       rintro v3 h3 ⟨dE,aP,gG⟩))
 all_goals (refine Go ?_;first | refine Br.ab ?_ | refine Gs [(0,_),(1,_),(2,_),(7,_)] ?_)
 all_goals (first | refine Br.ab ?_ | refine WC.region ?_)
 all_goals (refine Go ?_;first | refine Br.ab ?_ | (exact ⟨(k+1,_),⟨rfl,rfl,rfl,rfl,trivial⟩,(by exact ⟨by omega,by rw [j1 hy,← List.append_assoc];exact dE,aH.trans aP,fun q e=>(by have:=gG q e;have:=aH.size;omega)⟩),(by simp;omega)⟩))
 try (refine Br.mk (i:=1000) ?_)
 refine Gn ?_;refine Gs [(0,_)] ?_;refine G2 ?_;refine Gt ?_
 rw [List.take_of_length_le (by omega)] at dC
 exact ⟨dC,aH,eN⟩
theorem Bb:be (-1) 4=be 4294967295 4:=by
 have h:∀ i,i < 4→bI (-1+256 ^ 4) i=bI (-1) i:=fun i hi=>yJ hi
 exact (jn (m := -1+256 ^ 4) (n := -1) h (by decide) 4).symm
theorem GJ {h:ah} {v vr:Value} (l:List UInt8) (R:List aX) (hv:Rd h v 1 l.length (bu l)) (hR:cF h vr R) (hl:l.length≤1000000) (hm:R.length≤100) (hc:∀ c∈R,c.bytes.length≤1000) :
   ag Tryz.prog 66 ⟨[v,vr]⟩ h fun u h'=>Own h' u 5 1 (l++be R.length 2++R.flatMap cJ).length (bu (l++be R.length 2++R.flatMap cJ))∧Ext No h h'∧∀ q,u.ownBlock=some q→h.size≤q:=by
 obtain ⟨A0,c0,rfl,_⟩:=id hv
 obtain ⟨hr,⟨_,A,cc,rfl,_⟩,hok⟩:=hR
 have hfl:∀ k,((R.take k).flatMap cJ).length≤110000:=fun k=>Nat.le_trans (nN R k fun x hx=>sC (hc x hx)) (by omega)
 refine calls [(0,_),(1,_)] Tryz.func66 rfl Tryz.ntmps66 rfl ⟨rfl,rfl,trivial⟩ ?_
 refine G2 ?_;refine G2 ?_;refine WL.call (vs:=[_,_,_]) rfl Tryz.call62 rfl (kI l (R.length:Int) 2 DA (GI (by omega)) hv (by omega)) rfl rfl rfl ?_
 rintro v1 h1 ⟨fE,ay,fM⟩
 refine Go ?_;refine Gs [(0,_),(1,_)] ?_;refine G3 ?_;refine WC.block ?_;refine WC.bC (X:=Nat × Value) (fun x=>([(5,In (x.1:Int)),(0,x.2)]:Fr)) [(1,_)] (fun y h'=>y.1≤R.length∧Own h' y.2 5 1 (l++be (R.length:Int) 2++(R.take y.1).flatMap cJ).length (bu (l++be (R.length:Int) 2++(R.take y.1).flatMap cJ))∧Ext No h h'∧∀ q,y.2.ownBlock=some q→h.size≤q) (fun y=>R.length - y.1) ((0,v1)) ⟨rfl,rfl,rfl,trivial⟩ (by exact ⟨Nat.zero_le _,by simpa using fE,ay,fM⟩) ?_
 rintro ⟨k,u⟩ h2 ⟨hk,dC,aH,eN⟩
 dsimp only at hk dC eN
 refine WC.sub [(0,_),(5,_),(1,_)] ⟨rfl,rfl,rfl,trivial⟩ ?_
 dsimp only
 refine G3 ?_
 refine aJ 1 2 (Hb.mk fun hb=>?_) (Hb.mk fun hb=>?_)
 all_goals try (
 refine ax 1 ?_
 refine WC.skip ?_
 skip)
 all_goals try (
 refine ax 2 ?_
 refine WC.exit ?_
 repeat' (with_reducible first | refine aU ?_ | refine aG rfl ?_ | refine aI ?_ | refine aL ?_ | refine aS ?_)
 refine Br.out (i:=1000) ?_
 skip)
 all_goals (refine Gn ?_;first | refine Br.ab ?_ | refine Gs [(0,_),(1,_),(5,_)] ?_)
 all_goals (first | refine Br.ab ?_ | refine WC.seq ?_)
 all_goals (first | refine Br.ab ?_ | refine WC.block ?_)
 all_goals (first | refine Br.ab ?_ | refine WC.sr ?_)
 all_goals (
  first
    | (refine Br.ab ?_)
    | (obtain ⟨bL,oL,hA,hbL,hat⟩:=Rd.at_ (hr.aq aH) (by omega)
       obtain ⟨⟨yn,yv,yb⟩,hy⟩:∃ y,R[k]?=some y:=⟨_,List.getElem?_eq_getElem (by omega)⟩
       have hyo:=(hok _ (List.mem_of_getElem? hy)).1
       have hyc:=hc _ (List.mem_of_getElem? hy)
       dsimp only at hyo hyc
       obtain ⟨yA,yc,rfl,_⟩:=id hyo
       have hcd:At h2 bL (oL+k * 2) [.bool yn,.slice yA yb.length yc]:=At.elem aX.len hat hy
       have hlk:=hfl k
       have lu:(l++be (R.length:Int) 2++(R.take k).flatMap cJ).length≤2000000:=by simp only [List.length_append,bm];omega
       have NB:=aH.size
       have yI:(l++be (R.length:Int) 2++(R.take k).flatMap cJ++be (yb.length:Int) 4).length≤3000000:=by rw [List.length_append,bm];omega
       cases yn))
 all_goals (first | refine Br.ab ?_ | refine WL.step (ak rfl) rfl rfl rfl ?_)
 all_goals (refine Go ?_;first | refine Br.ab ?_ | (refine WL.step (aF Tryz.underlying40 Tryz.sizeOf85 rfl rfl rfl (by omega) (by first | rfl | assumption)) rfl rfl rfl ?_))
 all_goals (refine Go ?_;first | refine Br.ab ?_ | (refine WL.ld rfl (by first | exact hcd.get 0 rfl rfl | assumption) rfl rfl rfl ?_))
 all_goals (refine Gn ?_;first | refine Br.ab ?_ | refine Gs [(0,_),(1,_),(5,_),(20,_)] ?_)
 all_goals (first | refine Br.ab ?_ | refine aJ 3 4 ?_ TT.mk)
 all_goals try (
 refine ax 3 ?_
 refine WC.region (Go ?_);refine WL.call (vs:=[_,_,_]) rfl Tryz.call62 rfl (kI _ (-1) 4 DB (wb (by omega)) dC.rd (by omega)) rfl rfl rfl ?_
 rintro v5 h5 ⟨eG,aN,gZ⟩
 have kM:=aH.trans aN
 have LZ:∀ q,v5.ownBlock=some q→h.size≤q:=fun q e=>by have:=gZ q e;omega
 have L0:Own h5 v5 5 1 (l++be (R.length:Int) 2++(R.take (k+1)).flatMap cJ).length (bu (l++be (R.length:Int) 2++(R.take (k+1)).flatMap cJ)):=by rw [j1 hy,show cJ ⟨true,.slice yA yb.length yc,yb⟩=be 4294967295 4 from rfl,← Bb,← List.append_assoc];exact eG
 refine Go ?_
 skip)
 all_goals try (
 refine ax 4 ?_
 refine WC.bW (fun h'=>Ext No h2 h') 14 15 rfl dk ?_
 refine WH.tk 0 rfl (fun hq hC=>ak rfl) rfl rfl rfl ?_
 refine WH.tk 1 rfl (fun hq hC=>ak rfl) rfl rfl rfl ?_
 refine WH.tk 2 rfl (fun hq hC=>ak rfl) rfl rfl rfl ?_
 refine WH.tk 3 rfl (fun hq hC=>aF Tryz.underlying40 Tryz.sizeOf85 rfl rfl rfl (by omega) (by first | rfl | assumption)) rfl rfl rfl ?_
 refine WH.tk 4 rfl (fun hq hC=>ad rfl Tryz.underlying85 rfl Tryz.sizeOf23) rfl rfl rfl ?_
 refine WH.tk 5 rfl (fun hq hC=>aA Tryz.isAgg23 rfl (by first | exact hC.cell (by first | exact hcd.get 1 rfl rfl | assumption) aO)) rfl rfl rfl ?_
 refine WH.tk 6 rfl (fun hq hC=>cu rfl Tryz.underlying23 rfl) rfl rfl rfl ?_
 refine WH.tk 8 rfl (fun hq hC=>ak rfl) rfl rfl rfl ?_
 refine WH.tk 9 rfl (fun hq hC=>ak rfl) rfl rfl rfl ?_
 refine WH.tk 10 rfl (fun hq hC=>aF Tryz.underlying40 Tryz.sizeOf85 rfl rfl rfl (by omega) (by first | rfl | assumption)) rfl rfl rfl ?_
 refine WH.tk 11 rfl (fun hq hC=>ad rfl Tryz.underlying85 rfl Tryz.sizeOf23) rfl rfl rfl ?_
 refine WH.tk 12 rfl (fun hq hC=>aA Tryz.isAgg23 rfl (by first | exact hC.cell (by first | exact hcd.get 1 rfl rfl | assumption) aO)) rfl rfl rfl ?_
 refine WH.one 7 (by kernel_rfl) ?_
 refine aE.call (vs:=[_,_,_]) rfl rfl Tryz.call62 rfl (kI _ (yb.length:Int) 4 DB (wb (by omega)) dC.rd (by omega)) rfl rfl rfl ?_ (fun _=>by kernel_rfl)
 rintro v4 h4 ⟨fF,aW,vK⟩
 refine ⟨fun _=>aW,?_⟩
 refine WH.one 13 (by kernel_rfl) ?_
 refine aE.run rfl (aT (sz:=1) (bytes:=1) rfl Tryz.underlying23 (show Tryz.prog.info? 5=some Tryz.t5 by kernel_rfl) rfl rfl rfl rfl (by decide) rfl rfl fF ((hyo.aq aH).aq aW) (by intro c hc;obtain ⟨b,_,rfl⟩:=List.mem_map.1 hc;rfl) (by simp only [maxLen];omega) (by omega)) rfl rfl rfl ?_ (fun _=>by kernel_rfl)
 rintro v5 h5 ⟨eG,aN,yI⟩
 refine ⟨fun _=>aW.trans' aN (fun q hq e=>by have:=vK q e;omega),?_⟩
 have Ex:Ext No h2 h5:=aW.trans' aN (fun q hq e=>by have:=vK q e;omega)
 have kM:=aH.trans Ex
 have LZ:∀ q,v5.ownBlock=some q→h.size≤q:=fun q e=>yI.elim (fun z=>by have:=vK q (z▸e);omega) (fun z=>by rw [z] at e;cases e;have:=aW.size;omega)
 have L0:Own h5 v5 5 1 (l++be (R.length:Int) 2++(R.take (k+1)).flatMap cJ).length (bu (l++be (R.length:Int) 2++(R.take (k+1)).flatMap cJ)):=by rw [j1 hy,show cJ ⟨false,.slice yA yb.length yc,yb⟩=be yb.length 4++yb from rfl,← List.append_assoc,← List.append_assoc,List.length_append (bs:=yb),show ∀ m:List UInt8,bu (m++yb)=bu m++bu yb from fun m=>List.map_append ..];exact eG
 refine WH.one 14 (by kernel_rfl) ?_
 refine aE.run rfl (bK.r (aR rfl)) rfl rfl rfl ?_ (fun _=>by kernel_rfl)
 rintro _ hz ⟨rfl,_⟩
 subst hz
 refine ⟨fun _=>aW.trans' aN (fun q hq e=>by have:=vK q e;omega),?_⟩
 refine WH.done (by kernel_rfl) ?_
 skip)
 all_goals (refine Gn ?_;first | refine Br.ab ?_ | refine WC.region ?_)
 all_goals (refine Go ?_;first | refine Br.ab ?_ | (exact ⟨(k+1,_),⟨rfl,rfl,rfl,trivial⟩,(by exact ⟨by omega,L0,kM,LZ⟩),(by simp;omega)⟩))
 try (refine Br.mk (i:=1000) ?_)
 refine Gn ?_;refine Gs [(0,_)] ?_;refine G2 ?_;refine Gt ?_
 rw [List.take_of_length_le (by omega)] at dC
 exact ⟨dC,aH,eN⟩
end Go.Proofs.YtopgddfgefnmbaaGreatDoor
