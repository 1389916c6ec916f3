/-
  SEVERAL TEXTS IN ONE: Ck7, Pc1, Pc2, Pk8, Pk9, Pc3, Pc4, Pc5, Pc6, Qv5, Qv6, Qv7, Dp3, Qv8.
-/
import Derived.Test.YtopgddfgefnmbaaGreatDoorPServePieces5
set_option maxHeartbeats 8000000
set_option maxRecDepth 100000
namespace Go.Proofs.YtopgddfgefnmbaaGreatDoor
open Go Go.RK
def Wh (k w:Int):Prop:=(¬ (k=67∨k=68)∧(w=0∨w=83∨w=80))∨((k=67∨k=68)∧(w=83∨w=80))
structure Fm.may (f:Fm):Prop where
 kind:K6 f.kind
 name:aY f.name=true
 portal:aY f.portal=true
 text:aY f.text=true
 oids:∀ n∈f.oids,0≤n∧n≤4294967295
 formats:∀ n∈f.formats,0≤n∧n≤65535
 results:∀ n∈f.results,0≤n∧n≤65535
 params:∀ c∈f.params,c.okB
 what:Wh f.kind f.what
 max : -2147483648≤f.max∧f.max≤2147483647
 own:f.pl=(dA f).pl
theorem lD {h:ah} {v:Value} (l:List Int) (lo hi:Int) (hr:Rd h v 1 l.length (ints l)) (hm:l.length≤65535) :
   ag Tryz.prog 108 ⟨[v,In lo,In hi]⟩ h fun u h'=>u=.bool (decide (∀ n∈l,lo≤n∧n≤hi))∧h'=h:=by
 obtain ⟨A,c,rfl,_⟩:=id hr
 refine calls [(0,_),(1,_),(2,_)] Tryz.func108 rfl Tryz.ntmps108 rfl ⟨rfl,rfl,rfl,trivial⟩ ?_
 refine G2 ?_;refine G3 ?_
 refine aH 1 2 ?_ TT.mk
 all_goals (refine aw 2 ?_)
 refine WC.skip ?_;refine Gn ?_;refine Gs [(0,_),(1,_),(2,_)] ?_;refine G3 ?_;refine WC.block ?_;refine WC.bD (X:=Nat) (fun x=>([(7,In (x:Int))]:Fr)) [(0,_),(1,_),(2,_)] (fun k h'=>h'=h∧k≤l.length∧∀ n∈l.take k,lo≤n∧n≤hi) (fun k=>l.length - k) (0) ⟨rfl,rfl,rfl,rfl,trivial⟩ (by exact ⟨rfl,Nat.zero_le _,by simp⟩) ?_
 rintro k h9 ⟨hz,hk,hn⟩
 subst h9
 refine WC.sub [(7,_),(0,_),(1,_),(2,_)] ⟨rfl,rfl,rfl,rfl,trivial⟩ ?_;refine G3 ?_
 refine aH 3 4 (Hb.mk fun hb=>?_) (Hb.mk fun hb=>?_)
 all_goals try (
 refine aw 3 ?_
 refine WC.skip ?_
 skip)
 all_goals try (
 refine aw 4 ?_
 refine WC.exit ?_
 repeat' (with_reducible first | refine aU ?_ | refine aD rfl ?_ | refine aJ ?_ | refine aL ?_ | refine aS ?_)
 refine Br.out (i:=1000) ?_
 skip)
 all_goals (refine Gn ?_;first | refine Br.ab ?_ | refine Gs [(0,_),(1,_),(2,_),(7,_)] ?_)
 all_goals (first | refine Br.ab ?_ | refine WC.seq ?_)
 all_goals (first | refine Br.ab ?_ | refine WC.block ?_)
 all_goals (first | refine Br.ab ?_ | refine WC.seq ?_)
 all_goals (
  first
    | (refine Br.ab ?_)
    | (obtain ⟨bL,oL,hA,hbL,hat⟩:=Rd.at_ hr (by omega)
       obtain ⟨y,hy⟩:∃ y,l[k]?=some y:=⟨_,List.getElem?_eq_getElem (by omega)⟩
       have hcd:cell h ⟨bL,oL+k * 1,none⟩=some (In y):=by rw [Nat.mul_one];exact hat.one (j:=k) (by simp [hy])))
 all_goals (first | refine Br.ab ?_ | refine WC.region ?_)
 all_goals (refine Go ?_;first | refine Br.ab ?_ | (refine WL.step (aE Tryz.underlying39 Tryz.sizeOf3 rfl rfl rfl (by omega) (by first | rfl | assumption)) rfl rfl rfl ?_))
 all_goals (first | refine Br.ab ?_ | (refine WL.ld rfl (by first | exact hcd | assumption) rfl rfl rfl ?_))
 all_goals (refine Go ?_;first | refine Br.ab ?_ | (refine bK 23 (Hb.mk fun hb=>?_) (Hb.mk fun hb=>?_)))
 all_goals (refine Gg ?_;first | refine Br.ab ?_ | (first | (refine WL.pass rfl rfl rfl ?_) | (refine WL.step (aE Tryz.underlying39 Tryz.sizeOf3 rfl rfl rfl (by omega) (by first | rfl | assumption)) rfl rfl rfl ?_)))
 all_goals (first | refine Br.ab ?_ | (first | (refine WL.pass rfl rfl rfl ?_) | (refine WL.ld rfl (by first | exact hcd | assumption) rfl rfl rfl ?_)))
 all_goals (refine Gg ?_;refine Go ?_;first | refine Br.ab ?_ | refine Gs [(0,_),(1,_),(2,_),(7,_),(30,_)] ?_)
 all_goals (first | refine Br.ab ?_ | (first | (refine aH 5 6 ?_ TT.mk) | (refine aH 5 6 (Hb.mk fun hb=>?_) (Hb.mk fun hb=>?_))))
 all_goals try (
 refine aw 5 ?_
 all_goals (refine G2 ?_;refine Gs [(6,_)] ?_;refine Gt ?_)
 all_goals (
  first
   | exact ⟨congrArg Value.bool (decide_eq_true (by rw [List.take_of_length_le (by omega)] at hn;exact hn)).symm,rfl⟩
   | exact ⟨congrArg Value.bool (decide_eq_false (fun z=>by have:=z _ (List.mem_of_getElem? hy);omega)).symm,rfl⟩)
 skip)
 all_goals try (
 refine aw 6 ?_
 refine WC.skip ?_
 skip)
 all_goals (refine Gn ?_;first | refine Br.ab ?_ | refine WC.region ?_)
 all_goals (refine Go ?_;first | refine Br.ab ?_ | (exact ⟨k+1,⟨rfl,rfl,rfl,rfl,trivial⟩,(by exact ⟨rfl,by omega,rV hy hn (by omega)⟩),(by omega)⟩))
 try (refine Br.mk (i:=1000) ?_)
 refine Gn ?_;refine Gs [] ?_;refine G2 ?_;refine Gt ?_
 first
  | exact ⟨congrArg Value.bool (decide_eq_true (by rw [List.take_of_length_le (by omega)] at hn;exact hn)).symm,rfl⟩
  | exact ⟨congrArg Value.bool (decide_eq_false (fun z=>by have:=z _ (List.mem_of_getElem? hy);omega)).symm,rfl⟩
theorem Aw {h:ah} (f:Fm) (hf:f.ok h) (w:f.vU):ag Tryz.prog 63 ⟨[.agg ⟨f.cells⟩]⟩ h fun u h'=>(∃ e,u=In e∧(e=0 ↔ f.may))∧Ext No h h':=by
 have hof:=fun {h':ah} (hx:Ext No h h')=>F1 (h:=h') f (hf.aq hx)
 have hsa:=fun {h':ah} (hx:Ext No h h')=>C0 (h:=h') f (dA f) (hf.aq hx) (sH (hf.aq hx))
 have hyes:K6 f.kind→(aY f.name && aY f.portal && aY f.text)=true→(decide (∀ n∈f.oids,0≤n∧n≤4294967295) && decide (∀ n∈f.formats,0≤n∧n≤65535) && decide (∀ n∈f.results,0≤n∧n≤65535) && decide (∀ c∈f.params,c.okB))=true→Wh f.kind f.what→(-2147483648≤f.max∧f.max≤2147483647)→f.pl=(dA f).pl→f.may:=fun a1 a2 a3 a9 gY yq=>by
   simp only [Bool.and_eq_true] at a2
   simp only [Bool.and_eq_true,decide_eq_true_eq] at a3
   exact ⟨a1,a2.1.1,a2.1.2,a2.2,a3.1.1.1,a3.1.1.2,a3.1.2,a3.2,a9,gY,yq⟩
 have hnk:¬ K6 f.kind→¬ f.may:=fun a z=>a z.kind
 have hnT:(aY f.name && aY f.portal && aY f.text)=false→¬ f.may:=fun a z=>by rw [z.name,z.portal,z.text] at a;cases a
 have hnL:(decide (∀ n∈f.oids,0≤n∧n≤4294967295) && decide (∀ n∈f.formats,0≤n∧n≤65535) && decide (∀ n∈f.results,0≤n∧n≤65535) && decide (∀ c∈f.params,c.okB))=false→¬ f.may:=fun a z=>by rw [decide_eq_true z.oids,decide_eq_true z.formats,decide_eq_true z.results,decide_eq_true z.params] at a;cases a
 have xH:¬ Wh f.kind f.what→¬ f.may:=fun a z=>a z.what
 have yZ:¬ (-2147483648≤f.max∧f.max≤2147483647)→¬ f.may:=fun a z=>a z.max
 have la:¬ f.pl=(dA f).pl→¬ f.may:=fun a z=>a z.own
 generalize hob:dA f=ob at hof hsa hyes la
 generalize f.may=BM at hyes hnk hnT hnL xH yZ la ⊢
 generalize hPL:f.pl=PL at hsa hyes la
 obtain ⟨⟨e1,_⟩,⟨e2,_⟩,⟨e3,_⟩,e4⟩:=hf
 obtain ⟨DY,DZ,D0,xM,Ax,F2,F3,F4⟩:=w
 obtain ⟨fk,w,n,p,t,vo,o,vf,fs,vs,rs,vp,ps,mx⟩:=f
 dsimp only at e1 e2 e3 e4 DY DZ D0 xM Ax F2 F3 F4 hyes hnk hnT hnL xH yZ
 obtain ⟨A1,z1,rfl,_⟩:=id e1
 obtain ⟨A2,z2,rfl,_⟩:=id e2
 obtain ⟨A3,z3,rfl,_⟩:=id e3
 obtain ⟨_,⟨_,A4,z4,rfl,_⟩,_⟩:=id e4
 dsimp only [Fm.cells] at hof hsa ⊢
 have hwc:w=0∨w=83∨w=80∨(w ≠ 0∧w ≠ 83∧w ≠ 80):=by omega
 unfold Wh at hyes xH
 refine calls [(0,_)] Tryz.func63 rfl Tryz.ntmps63 rfl ⟨rfl,trivial⟩ ?_
 refine WC.sr ?_;refine WL.aj (aG rfl) rfl rfl rfl ?_
 rintro _ g1 ⟨b1,rfl,bR,aR,az⟩
 refine Go ?_;refine G3 ?_;refine Ld ?_;refine WL.call (vs:=[_]) rfl Tryz.call107 rfl (CZ fk) rfl rfl rfl ?_
 rintro _ h9 ⟨⟨kx,rfl,hkx⟩,lU⟩
 subst h9
 refine Go ?_;refine Gs [(1,_),(9,_)] ?_
 refine aH 1 2 (Hb.mk fun hb=>?_) (Hb.mk fun hb=>?_)
 all_goals try (
 refine aw 1 ?_
 refine G2 ?_;refine Gt ?_
 try (have Bn:=of_decide_eq_true ‹decide (mx < -2147483648)=true›)
 try (have oZ:=of_decide_eq_true ‹decide (2147483647 < mx)=true›)
 try (have LQ:=of_decide_eq_false ‹decide (mx < -2147483648)=false›)
 try (have Jc:=of_decide_eq_false ‹decide (2147483647 < mx)=false›)
 first
  | (refine ⟨⟨0,rfl,⟨fun _=>?_,fun _=>rfl⟩⟩,lO.trans bZ⟩
     exact hyes (hkx.1 (by omega)) htx.symm hlx.symm (by omega) (by omega) (hsx.1 rfl))
  | (refine ⟨⟨_,rfl,⟨fun z=>absurd z (by decide),fun z=>absurd z ?_⟩⟩,az⟩
     first | exact hnT htx.symm | exact hnL hlx.symm | exact hnk (fun z=>by have:=hkx.2 z;omega) | exact xH (by omega) | exact yZ (by omega))
  | (refine ⟨⟨_,rfl,⟨fun z=>absurd z (by decide),fun z=>absurd z ?_⟩⟩,lO.trans bZ⟩
     exact la (fun z=>Bool.false_ne_true (hsx.2 z)))
 skip)
 all_goals (refine aw 2 ?_)
 refine WC.skip ?_;refine Gn ?_;refine WC.cut (X:=Bool) (fun z=>[(1,.pointer (some ⟨b1,0,none⟩)),(3,.bool z)]) (fun z h'=>z=(aY n && aY p && aY t)∧h'=g1) ?_ ?_
 ·
   refine WC.region (Go ?_);refine Ld ?_;refine WL.call (vs:=[_]) rfl Tryz.call104 rfl ((pY n (by omega)).bl) rfl rfl rfl ?_
   rintro _ h9 ⟨⟨rfl,c1⟩ | ⟨rfl,c1⟩,lU⟩
   all_goals subst h9
   all_goals (refine Go ?_;refine bK 13 ?_ TT.mk;refine Gg ?_;first | refine WL.pass rfl rfl rfl ?_ | refine Ld ?_)
   all_goals (
    first
      | (refine WL.pass rfl rfl rfl ?_)
      | (refine WL.call (vs:=[_]) rfl Tryz.call104 rfl ((pY p (by omega)).bl) rfl rfl rfl ?_
         rintro _ h9 ⟨⟨rfl,c2⟩ | ⟨rfl,c2⟩,lU⟩
         all_goals subst h9))
   all_goals (refine Go ?_;refine bK 18 ?_ TT.mk;refine Gg ?_;first | refine WL.pass rfl rfl rfl ?_ | refine Ld ?_)
   all_goals (
    first
      | (refine WL.pass rfl rfl rfl ?_)
      | (refine WL.call (vs:=[_]) rfl Tryz.call104 rfl ((pY t (by omega)).bl) rfl rfl rfl ?_
         rintro _ h9 ⟨⟨rfl,c3⟩ | ⟨rfl,c3⟩,lU⟩
         all_goals subst h9))
   all_goals (refine Go ?_;refine ⟨_,⟨rfl,rfl,trivial⟩,?_⟩;exact ⟨by simp [*],rfl⟩)
 rintro tx h9 ⟨htx,lU⟩;subst h9
 refine WC.cut (X:=Bool) (fun z=>[(1,.pointer (some ⟨b1,0,none⟩)),(3,.bool tx),(4,.bool z)]) (fun z h'=>z=(decide (∀ n∈o,0≤n∧n≤4294967295) && decide (∀ n∈fs,0≤n∧n≤65535) && decide (∀ n∈rs,0≤n∧n≤65535) && decide (∀ c∈ps,c.okB))∧h'=g1) ?_ ?_
 ·
   refine WC.region (Go ?_);refine Ld ?_;refine WL.call (vs:=[_,_,_]) rfl Tryz.call108 rfl ((lD o 0 4294967295 (e1.aq az) (by omega)).dec) rfl rfl rfl ?_
   rintro _ h9 ⟨⟨rfl,c4⟩ | ⟨rfl,c4⟩,lU⟩
   all_goals subst h9
   all_goals (refine Go ?_;refine bK 26 ?_ TT.mk;refine Gg ?_;first | refine WL.pass rfl rfl rfl ?_ | refine Ld ?_)
   all_goals (
    first
      | (refine WL.pass rfl rfl rfl ?_)
      | (refine WL.call (vs:=[_,_,_]) rfl Tryz.call108 rfl ((lD fs 0 65535 (e2.aq az) (by omega)).dec) rfl rfl rfl ?_
         rintro _ h9 ⟨⟨rfl,c5⟩ | ⟨rfl,c5⟩,lU⟩
         all_goals subst h9))
   all_goals (refine Go ?_;refine bK 31 ?_ TT.mk;refine Gg ?_;first | refine WL.pass rfl rfl rfl ?_ | refine Ld ?_)
   all_goals (
    first
      | (refine WL.pass rfl rfl rfl ?_)
      | (refine WL.call (vs:=[_,_,_]) rfl Tryz.call108 rfl ((lD rs 0 65535 (e3.aq az) (by omega)).dec) rfl rfl rfl ?_
         rintro _ h9 ⟨⟨rfl,c6⟩ | ⟨rfl,c6⟩,lU⟩
         all_goals subst h9))
   all_goals (refine Go ?_;refine bK 36 ?_ TT.mk;refine Gg ?_;first | refine WL.pass rfl rfl rfl ?_ | refine Ld ?_)
   all_goals (
    first
      | (refine WL.pass rfl rfl rfl ?_)
      | (refine WL.call (vs:=[_]) rfl Tryz.call109 rfl ((yW ps (e4.aq az) (by omega) (fun c hc=>by have:=Ax c hc;omega)).dec) rfl rfl rfl ?_
         rintro _ h9 ⟨⟨rfl,c7⟩ | ⟨rfl,c7⟩,lU⟩
         all_goals subst h9))
   all_goals (refine Go ?_;refine ⟨_,⟨rfl,rfl,rfl,trivial⟩,?_⟩;first | (refine ⟨?_,rfl⟩;rw [decide_eq_false c4];simp;done) | (refine ⟨?_,rfl⟩;rw [decide_eq_false c5];simp;done) | (refine ⟨?_,rfl⟩;rw [decide_eq_false c6];simp;done) | (refine ⟨?_,rfl⟩;rw [decide_eq_false c7];simp;done) | (refine ⟨?_,rfl⟩;rw [decide_eq_true c4,decide_eq_true c5,decide_eq_true c6,decide_eq_true c7];rfl))
 rintro lx h9 ⟨hlx,lU⟩;subst h9
 refine WC.sr ?_
 rcases hwc with hwc | hwc | hwc | hwc
 all_goals (refine WL.step (ad rfl Tryz.underlying42 rfl Tryz.sizeOf5) rfl rfl rfl ?_;refine Ld ?_;refine Go ?_;refine bK 44 ?_ TT.mk;refine Gg ?_;first | refine WL.pass rfl rfl rfl ?_ | refine Ld ?_)
 all_goals (refine Gg ?_;refine Go ?_;refine bK 49 ?_ TT.mk;refine Gg ?_;first | refine WL.pass rfl rfl rfl ?_ | refine Ld ?_)
 all_goals (refine Gg ?_;refine Go ?_;refine Gs [(1,_),(3,_),(4,_),(5,_)] ?_;refine G3 ?_;refine Ld ?_;refine Go ?_;refine bK 57 (Hb.mk fun hb=>?_) (Hb.mk fun hb=>?_))
 all_goals (refine Gg ?_;first | refine WL.pass rfl rfl rfl ?_ | refine Ld ?_)
 all_goals (refine Gg ?_;refine Go ?_;refine Gs [(1,_),(3,_),(4,_),(5,_),(61,_)] ?_;first | refine aH 3 4 ?_ TT.mk | (refine aH 3 4 (Hb.mk fun hb=>?_) (Hb.mk fun hb=>?_)))
 all_goals try (
 refine aw 3 ?_
 all_goals (refine WC.region (Go ?_);refine Ld ?_;refine Go ?_;refine bK 65 ?_ TT.mk;refine Gg ?_;first | refine WL.pass rfl rfl rfl ?_ | refine Ld ?_)
 all_goals (refine Gg ?_;refine Go ?_)
 skip)
 all_goals try (
 refine aw 4 ?_
 all_goals (refine WC.skip ?_)
 skip)
 all_goals (refine Gn ?_;refine WC.seq ?_;refine WC.seq ?_;refine WC.bW (fun h'=>h'[b1]?=some (.cells ⟨[.int .u8 fk,.int .u8 w,St n,St p,St t,.slice A1 o.length z1,.slice A2 fs.length z2,.slice A3 rs.length z3,.slice A4 ps.length z4,In mx]⟩ 42 (0,0))) 27 27 rfl dm ?_)
 all_goals (
  cases tx
  all_goals (cases lx))
 all_goals (refine WH.tk 0 rfl (fun hq hC=>ak rfl) rfl rfl rfl ?_ (hC:=(by first | exact bY | exact bE | exact aR));refine WH.tk 1 rfl (fun hq hC=>dw rfl) rfl rfl rfl ?_ (hC:=(by first | exact bY | exact bE | exact aR));refine WH.tk 2 rfl (fun hq hC=>ak rfl) rfl rfl rfl ?_ (hC:=(by first | exact bY | exact bE | exact aR));try ((fail_if_success (refine WH.part 72 (b:=true) rfl (fun _=>?_) (fun _=>?_)));(fail_if_success (refine WH.part 72 (b:=false) rfl (fun _=>?_) (fun _=>?_)));(refine WH.part 72 rfl (fun hb=>?_) (fun hb=>?_))))
 all_goals (first | (refine WH.ps 3 rfl rfl rfl rfl ?_ (hC:=(by first | exact bY | exact bE | exact aR))) | (refine WH.tk 3 rfl (fun hq hC=>ak rfl) rfl rfl rfl ?_ (hC:=(by first | exact bY | exact bE | exact aR))))
 all_goals (first | (refine WH.ps 4 rfl rfl rfl rfl ?_ (hC:=(by first | exact bY | exact bE | exact aR))) | (refine WH.tk 4 rfl (fun hq hC=>dw rfl) rfl rfl rfl ?_ (hC:=(by first | exact bY | exact bE | exact aR))))
 all_goals (first | (refine WH.tk 5 rfl (fun hq hC=>cH rfl rfl) rfl rfl rfl ?_ (hC:=(by first | exact bY | exact bE | exact aR))) | (refine WH.tk 5 rfl (fun hq hC=>cI rfl rfl) rfl rfl rfl ?_ (hC:=(by first | exact bY | exact bE | exact aR))))
 all_goals (refine WH.tk 6 rfl (fun hq hC=>ak rfl) rfl rfl rfl ?_ (hC:=(by first | exact bY | exact bE | exact aR));try ((fail_if_success (refine WH.part 76 (b:=true) rfl (fun _=>?_) (fun _=>?_)));(fail_if_success (refine WH.part 76 (b:=false) rfl (fun _=>?_) (fun _=>?_)));(refine WH.part 76 rfl (fun hb=>?_) (fun hb=>?_))))
 all_goals (first | (refine WH.ps 7 rfl rfl rfl rfl ?_ (hC:=(by first | exact bY | exact bE | exact aR))) | (refine WH.tk 7 rfl (fun hq hC=>ak rfl) rfl rfl rfl ?_ (hC:=(by first | exact bY | exact bE | exact aR))))
 all_goals (first | (refine WH.ps 8 rfl rfl rfl rfl ?_ (hC:=(by first | exact bY | exact bE | exact aR))) | (refine WH.tk 8 rfl (fun hq hC=>dw rfl) rfl rfl rfl ?_ (hC:=(by first | exact bY | exact bE | exact aR))))
 all_goals (first | (refine WH.tk 9 rfl (fun hq hC=>cH rfl rfl) rfl rfl rfl ?_ (hC:=(by first | exact bY | exact bE | exact aR))) | (refine WH.tk 9 rfl (fun hq hC=>cI rfl rfl) rfl rfl rfl ?_ (hC:=(by first | exact bY | exact bE | exact aR))))
 all_goals (refine WH.tk 10 rfl (fun hq hC=>ak rfl) rfl rfl rfl ?_ (hC:=(by first | exact bY | exact bE | exact aR));try ((fail_if_success (refine WH.part 80 (b:=true) rfl (fun _=>?_) (fun _=>?_)));(fail_if_success (refine WH.part 80 (b:=false) rfl (fun _=>?_) (fun _=>?_)));(refine WH.part 80 rfl (fun hb=>?_) (fun hb=>?_))))
 all_goals (first | (refine WH.ps 11 rfl rfl rfl rfl ?_ (hC:=(by first | exact bY | exact bE | exact aR))) | (refine WH.tk 11 rfl (fun hq hC=>ad rfl Tryz.underlying42 rfl Tryz.sizeOf3) rfl rfl rfl ?_ (hC:=(by first | exact bY | exact bE | exact aR))))
 all_goals (first | (refine WH.ps 12 rfl rfl rfl rfl ?_ (hC:=(by first | exact bY | exact bE | exact aR))) | (refine WH.tk 12 rfl (fun hq hC=>aA Tryz.isAgg3 rfl (aa hC rfl)) rfl rfl rfl ?_ (hC:=(by first | exact bY | exact bE | exact aR))))
 all_goals (first | (refine WH.ps 13 rfl rfl rfl rfl ?_ (hC:=(by first | exact bY | exact bE | exact aR))) | (refine WH.tk 13 rfl (fun hq hC=>mH rfl rfl) rfl rfl rfl ?_ (hC:=(by first | exact bY | exact bE | exact aR))))
 all_goals (first | (refine WH.tk 14 rfl (fun hq hC=>cH rfl rfl) rfl rfl rfl ?_ (hC:=(by first | exact bY | exact bE | exact aR))) | (refine WH.tk 14 rfl (fun hq hC=>cI rfl rfl) rfl rfl rfl ?_ (hC:=(by first | exact bY | exact bE | exact aR))))
 all_goals (refine WH.tk 15 rfl (fun hq hC=>ak rfl) rfl rfl rfl ?_ (hC:=(by first | exact bY | exact bE | exact aR));try ((fail_if_success (refine WH.part 85 (b:=true) rfl (fun _=>?_) (fun _=>?_)));(fail_if_success (refine WH.part 85 (b:=false) rfl (fun _=>?_) (fun _=>?_)));(refine WH.part 85 rfl (fun hb=>?_) (fun hb=>?_))))
 all_goals (first | (refine WH.ps 16 rfl rfl rfl rfl ?_ (hC:=(by first | exact bY | exact bE | exact aR))) | (refine WH.tk 16 rfl (fun hq hC=>ad rfl Tryz.underlying42 rfl Tryz.sizeOf3) rfl rfl rfl ?_ (hC:=(by first | exact bY | exact bE | exact aR))))
 all_goals (first | (refine WH.ps 17 rfl rfl rfl rfl ?_ (hC:=(by first | exact bY | exact bE | exact aR))) | (refine WH.tk 17 rfl (fun hq hC=>aA Tryz.isAgg3 rfl (aa hC rfl)) rfl rfl rfl ?_ (hC:=(by first | exact bY | exact bE | exact aR))))
 all_goals (first | (refine WH.ps 18 rfl rfl rfl rfl ?_ (hC:=(by first | exact bY | exact bE | exact aR))) | (refine WH.tk 18 rfl (fun hq hC=>mL rfl rfl) rfl rfl rfl ?_ (hC:=(by first | exact bY | exact bE | exact aR))))
 all_goals (first | (refine WH.tk 19 rfl (fun hq hC=>cH rfl rfl) rfl rfl rfl ?_ (hC:=(by first | exact bY | exact bE | exact aR))) | (refine WH.tk 19 rfl (fun hq hC=>cI rfl rfl) rfl rfl rfl ?_ (hC:=(by first | exact bY | exact bE | exact aR))))
 all_goals (refine WH.tk 20 rfl (fun hq hC=>ak rfl) rfl rfl rfl ?_ (hC:=(by first | exact bY | exact bE | exact aR));try ((fail_if_success (refine WH.part 90 (b:=true) rfl (fun _=>?_) (fun _=>?_)));(fail_if_success (refine WH.part 90 (b:=false) rfl (fun _=>?_) (fun _=>?_)));(refine WH.part 90 rfl (fun hb=>?_) (fun hb=>?_))))
 all_goals (first | (refine WH.ps 21 rfl rfl rfl rfl ?_ (hC:=(by first | exact bY | exact bE | exact aR))) | (refine WH.tk 21 rfl (fun hq hC=>ay Tryz.isAgg42 Tryz.sizeOf42 rfl rfl (by exact At.av hC)) rfl rfl rfl ?_ (hC:=(by first | exact bY | exact bE | exact aR))))
 all_goals (first | (refine WH.ps 22 rfl rfl rfl rfl ?_ (hC:=(by first | exact bY | exact bE | exact aR))) | (refine WH.tk 22 rfl (fun hq hC=>ay Tryz.isAgg42 Tryz.sizeOf42 rfl rfl (by exact At.av hC)) rfl rfl rfl ?_ (hC:=(by first | exact bY | exact bE | exact aR))))
 all_goals (first
   | (refine WH.ps 23 rfl rfl rfl rfl ?_ (hC:=(by first | exact bY | exact bE | exact aR)))
   | (all_goals (refine WH.one 23 (by kernel_rfl) ?_)
      all_goals (refine aC.call (vs:=[_]) rfl rfl Tryz.call111 rfl (hof az) rfl rfl rfl ?_ (fun _=>by kernel_rfl);rintro _ g8 ⟨rfl,bz⟩;have bE:=bz.obj aR aO;have lO:=az.trans bz;refine ⟨fun _=>bE,?_⟩)
      skip))
 all_goals (first
   | (refine WH.ps 24 rfl rfl rfl rfl ?_ (hC:=(by first | exact bY | exact bE | exact aR)))
   | (all_goals (refine WH.one 24 (by kernel_rfl) ?_)
      all_goals (refine aC.call (vs:=[_,_]) rfl rfl Tryz.call110 rfl (hsa lO) rfl rfl rfl ?_ (fun _=>by kernel_rfl);rintro _ g9 ⟨⟨sx,rfl,hsx⟩,bZ⟩;have bY:=bZ.obj bE aO;cases sx)
      all_goals (refine ⟨fun _=>bY,?_⟩)
      skip))
 all_goals (first | (refine WH.ps 25 rfl rfl rfl rfl ?_ (hC:=(by first | exact bY | exact bE | exact aR))) | (refine WH.tk 25 rfl (fun hq hC=>dw rfl) rfl rfl rfl ?_ (hC:=(by first | exact bY | exact bE | exact aR))))
 all_goals (first | (refine WH.tk 26 rfl (fun hq hC=>cH rfl rfl) rfl rfl rfl ?_ (hC:=(by first | exact bY | exact bE | exact aR))) | (refine WH.tk 26 rfl (fun hq hC=>cI rfl rfl) rfl rfl rfl ?_ (hC:=(by first | exact bY | exact bE | exact aR))))
 all_goals (refine WH.done (by kernel_rfl) ?_;refine Gn ?_;refine Gs [(96,_)] ?_;refine aH 5 6 ?_ TT.mk)
 all_goals try (
 refine aw 5 ?_
 all_goals (refine G2 ?_;refine Gt ?_)
 all_goals (
  try (have Bn:=of_decide_eq_true ‹decide (mx < -2147483648)=true›)
  try (have oZ:=of_decide_eq_true ‹decide (2147483647 < mx)=true›)
  try (have LQ:=of_decide_eq_false ‹decide (mx < -2147483648)=false›)
  try (have Jc:=of_decide_eq_false ‹decide (2147483647 < mx)=false›)
  first
   | (refine ⟨⟨0,rfl,⟨fun _=>?_,fun _=>rfl⟩⟩,lO.trans bZ⟩
      exact hyes (hkx.1 (by omega)) htx.symm hlx.symm (by omega) (by omega) (hsx.1 rfl))
   | (refine ⟨⟨_,rfl,⟨fun z=>absurd z (by decide),fun z=>absurd z ?_⟩⟩,az⟩
      first | exact hnT htx.symm | exact hnL hlx.symm | exact hnk (fun z=>by have:=hkx.2 z;omega) | exact xH (by omega) | exact yZ (by omega))
   | (refine ⟨⟨_,rfl,⟨fun z=>absurd z (by decide),fun z=>absurd z ?_⟩⟩,lO.trans bZ⟩
      exact la (fun z=>Bool.false_ne_true (hsx.2 z))))
 skip)
 all_goals (refine aw 6 ?_;refine WC.skip ?_;refine Gn ?_;refine G2 ?_;refine Gt ?_)
 all_goals (
  try (have Bn:=of_decide_eq_true ‹decide (mx < -2147483648)=true›)
  try (have oZ:=of_decide_eq_true ‹decide (2147483647 < mx)=true›)
  try (have LQ:=of_decide_eq_false ‹decide (mx < -2147483648)=false›)
  try (have Jc:=of_decide_eq_false ‹decide (2147483647 < mx)=false›)
  first
   | (refine ⟨⟨0,rfl,⟨fun _=>?_,fun _=>rfl⟩⟩,lO.trans bZ⟩
      exact hyes (hkx.1 (by omega)) htx.symm hlx.symm (by omega) (by omega) (hsx.1 rfl))
   | (refine ⟨⟨_,rfl,⟨fun z=>absurd z (by decide),fun z=>absurd z ?_⟩⟩,az⟩
      first | exact hnT htx.symm | exact hnL hlx.symm | exact hnk (fun z=>by have:=hkx.2 z;omega) | exact xH (by omega) | exact yZ (by omega))
   | (refine ⟨⟨_,rfl,⟨fun z=>absurd z (by decide),fun z=>absurd z ?_⟩⟩,lO.trans bZ⟩
      exact la (fun z=>Bool.false_ne_true (hsx.2 z))))
theorem sI {n:Int} {s:Nat} (h0:0≤n) (h1:n < 256 ^ s):∀ k,k≤s→ij (kI n s k)=n / 256 ^ (s - k)
 | 0,_=>by
   rw [Nat.sub_zero,Int.ediv_eq_zero_of_lt h0 h1]
   rfl
 | k+1,hk=>by
   have e:s - k=(s - 1 - k)+1:=by omega
   have ih:=sI h0 h1 k (by omega)
   rw [kI,kT,ih,yd,show s - (k+1)=s - 1 - k by omega,e,Int.pow_succ,← Int.ediv_ediv_of_nonneg (by have:(0:Int) < 256 ^ (s - 1 - k):=Int.pow_pos (by decide);omega)]
   omega
theorem qF {n:Int} {s:Nat} (h0:0≤n) (h1:n < 256 ^ s):ij (be n s)=n:=by
 unfold be
 rw [sI h0 h1 s (Nat.le_refl _),Nat.sub_self,Int.pow_zero,Int.ediv_one]
theorem vW {h:ah} {s:Nat} (hs:Sz s):ag Tryz.prog 180 ⟨[In s]⟩ h fun u h'=>u=.bool true∧h'=h:=by
 rcases hs with rfl | rfl | rfl
 all_goals
   refine calls [(0,_)] Tryz.func180 rfl Tryz.ntmps180 rfl ⟨rfl,trivial⟩ ?_
   all_goals (refine G2 ?_;refine G3 ?_;refine WC.block ?_;refine G3 ?_;refine aH 1 2 ?_ TT.mk)
   all_goals try (
   refine aw 1 ?_
   all_goals (refine WC.skip ?_)
   skip)
   all_goals try (
   refine aw 2 ?_
   all_goals (refine G2 ?_;refine Gs [(3,_),(4,_)] ?_;refine aH 3 4 ?_ TT.mk)
   all_goals try (
   refine aw 3 ?_
   all_goals (refine WC.skip ?_)
   skip)
   all_goals try (
   refine aw 4 ?_
   all_goals (refine WC.region (Go ?_))
   skip)
   skip)
   all_goals (refine Gn ?_;refine aH 5 6 ?_ TT.mk;refine aw 5 ?_;refine G2 ?_;refine Gt ?_;exact ⟨rfl,rfl⟩)
theorem H6 {h:ah} {A:Option Addr} {c:Nat} {s:Nat} (hz:Sz s) (l:List UInt8) (hr:Rd h (.slice A l.length c) 1 l.length (bA l)) (k:Nat) (hl:k+s≤l.length) (hm:l.length≤1000000) :
   ag Tryz.prog 176 ⟨[.slice A l.length c,In (k:Int),In s]⟩ h fun u h'=>u=.tuple ⟨[In (ij ((l.drop k).take s)),In 0]⟩∧h'=h:=by
 have kz:=fun h'=>vW (h:=h') hz
 have wz:1≤s∧s≤4:=by unfold Sz at hz;omega
 have hcap:l.length≤c:=by
   obtain ⟨A1,c1,hv,hcap,_⟩:=id hr
   simp only [Value.slice.injEq] at hv
   obtain ⟨_,_,rfl⟩:=hv
   exact hcap
 have hs:=(hr.drop (l:=k) (by omega)).take (k:=s) (by omega)
 have hml:((l.drop k).take s).length=s:=by simp;omega
 have hmb:((bA l).drop (k * 1)).take (s * 1)=bA ((l.drop k).take s):=by simp [bA]
 rw [hmb] at hs
 generalize (l.drop k).take s=m at *
 refine calls [(0,_),(1,_),(2,_)] Tryz.func176 rfl Tryz.ntmps176 rfl ⟨rfl,rfl,rfl,trivial⟩ ?_
 refine G2 ?_;refine WC.seq ?_;refine WC.block ?_;refine G3 ?_;refine WL.call (vs:=[_]) rfl Tryz.call180 rfl (kz _) rfl rfl rfl ?_
 rintro _ hz ⟨rfl,_⟩
 subst hz
 refine Go ?_;refine Gs [(0,_),(1,_),(2,_),(11,_)] ?_
 refine aH 1 2 ?_ TT.mk
 all_goals (refine aw 2 ?_)
 refine WC.region (Go ?_);refine Gn ?_
 refine aH 3 4 ?_ TT.mk
 all_goals (refine aw 4 ?_)
 refine G3 ?_;refine Gs [(0,_),(1,_),(2,_),(17,_)] ?_
 refine aH 5 6 ?_ TT.mk
 all_goals (refine aw 6 ?_)
 refine WC.region (Go ?_);refine Gn ?_
 refine aH 7 8 ?_ TT.mk
 all_goals (refine aw 8 ?_)
 refine WC.skip ?_;refine Gn ?_;refine G2 ?_;refine G3 ?_;refine WL.step (cW (l:=k) (k:=k+s) Tryz.underlying23 Tryz.sizeOf5 rfl rfl rfl (by omega)) rfl rfl rfl ?_
 rw [show k+s - k=s by omega]
 generalize (if c=k then A else A.map (·.add (k * 1)))=S at *
 refine Go ?_;refine Gs [(8,_),(33,_),(34,_),(35,_)] ?_;refine WC.block ?_;refine WC.bD (X:=Nat × Int) (fun x=>([(35,In (x.1:Int)),(8,In x.2)]:Fr)) [(33,_),(34,_)] (fun x h'=>h'=h∧x.1≤s∧x.2=ij (m.take x.1)∧0≤x.2∧x.2+1≤256 ^ x.1) (fun x=>s - x.1) ((0,0)) ⟨rfl,rfl,rfl,rfl,trivial⟩ (by exact ⟨rfl,by simp,rfl,by simp,by simp⟩) ?_
 rintro ⟨j,n⟩ h1 ⟨iV,hj,hn,Eo,BR⟩
 dsimp only at hj hn Eo BR
 subst iV
 refine WC.sub [(8,_),(35,_),(33,_),(34,_)] ⟨rfl,rfl,rfl,rfl,trivial⟩ ?_
 dsimp only
 refine G2 ?_;refine WC.seq ?_
 refine aH 9 10 (Hb.mk fun hb=>?_) (Hb.mk fun hb=>?_)
 all_goals try (
 refine aw 9 ?_
 refine WC.skip ?_
 skip)
 all_goals try (
 refine aw 10 ?_
 refine WC.exit ?_
 repeat' (with_reducible first | refine aU ?_ | refine aD rfl ?_ | refine aJ ?_ | refine aL ?_ | refine aS ?_)
 refine Br.out (i:=1001) ?_
 skip)
 all_goals (refine Gn ?_;first | refine Br.ab ?_ | refine WC.seq ?_)
 all_goals (first | refine Br.ab ?_ | refine WC.block ?_)
 all_goals (first | refine Br.ab ?_ | refine WC.sr ?_)
 all_goals (
  first
    | (refine Br.ab ?_)
    | (obtain ⟨bL,oL,hA,hbL,hat⟩:=Rd.at_ hs (by omega)
       obtain ⟨y,hy⟩:∃ y,m[j]?=some y:=⟨_,List.getElem?_eq_getElem (by omega)⟩
       have fp:=hat.get (p:=oL+j * 1) j (show (bA m)[j]?=some (By y) by simp [bA,hy]) (by omega)
       have hpl:=pI (show j≤3 by omega)
       have hyl:=y.toNat_lt))
 all_goals (first | refine Br.ab ?_ | (refine WL.step (aE Tryz.underlying23 Tryz.sizeOf5 rfl rfl rfl (by omega) (by first | rfl | assumption)) rfl rfl rfl ?_))
 all_goals (first | refine Br.ab ?_ | (refine WL.ld rfl (by first | exact fp | assumption) rfl rfl rfl ?_))
 all_goals (refine Go ?_;first | refine Br.ab ?_ | refine WC.region ?_)
 all_goals (refine Go ?_;first | refine Br.ab ?_ | (refine WL.step (vj rfl rfl (by decide) (by rw [show (2:Int) ^ ((8:Int)).toNat=256 from rfl];constructor <;> omega)) rfl rfl rfl ?_))
 all_goals (first | refine Br.ab ?_ | rw [show (2:Int) ^ ((8:Int)).toNat=256 from rfl])
 all_goals (refine Go ?_;first | refine Br.ab ?_ | (refine WL.step (j4 Tryz.underlying5 Tryz.underlying3 rfl (by omega)) rfl rfl rfl ?_))
 all_goals (first | refine Br.ab ?_ | refine WL.step (DC rfl rfl) rfl rfl rfl ?_)
 all_goals (first | refine Br.ab ?_ | (rw [vk ⟨by omega,by omega⟩ ⟨by omega,by omega⟩]))
 all_goals (refine Go ?_;first | refine Br.ab ?_ | refine Gs [(8,_),(33,_),(34,_),(35,_)] ?_)
 all_goals (first | refine Br.ab ?_ | refine WC.region ?_)
 all_goals (refine Go ?_;first | refine Br.ab ?_ | (exact ⟨(j+1,_),⟨rfl,rfl,rfl,rfl,trivial⟩,(by exact ⟨rfl,by omega,by rw [List.take_add_one,hy,Option.toList_some,kT,← hn],by omega,by rw [Int.pow_succ];omega⟩),(by simp;omega)⟩))
 try (refine Br.mk (i:=1001) ?_)
 refine Gn ?_;refine Gs [(8,_)] ?_;refine G2 ?_;refine Gt ?_
 first | exact ⟨by rw [hn,List.take_of_length_le (by omega)],rfl⟩ | (exfalso;omega)
def SO (v v':Value):Prop:=∀ q,v'.ownBlock=some q→v.ownBlock=some q
theorem SO.refl (v:Value):SO v v:=fun _ h=>h
theorem SO.trans {a b c:Value} (x:SO a b) (y:SO b c):SO a c:=fun q h=>x q (y q h)
section
variable {h h':ah} {b:Nat} {v:Value} {l:List UInt8}
theorem qG (k:Sc h b v l) (n:Nat) (hn:n≤l.length) (hm:l.length≤1000000):ag Tryz.prog 175 ⟨[.pointer (some ⟨b,0,none⟩),In (n:Int)]⟩ h fun u h'=>∃ A c v',u=.tuple ⟨[.slice A n c,.bool true]⟩∧Rd h' (.slice A n c) 1 n (bA (l.take n))∧Sc h' b v' (l.drop n)∧Ext (fun q=>q=b) h h'∧SO v v':=by
 have kg:=fun (h':ah) (k:Sc h' b v l)=>iX k
 have hb:=k.bm
 have hr:=k.rd
 have hne:=k.ne
 obtain ⟨A,c,rfl,hcap,_⟩:=id hr
 refine calls [(0,_),(1,_)] Tryz.func175 rfl Tryz.ntmps175 rfl ⟨rfl,rfl,trivial⟩ ?_
 refine G2 ?_;refine G3 ?_;refine WL.call (vs:=[_]) rfl Tryz.call132 rfl (kg _ k) rfl rfl rfl ?_
 rintro _ hq ⟨rfl,hz⟩
 replace hz:=hz.symm
 subst hz
 refine Go ?_
 refine bK 10 ?_ TT.mk
 refine Gg ?_;refine Go ?_
 refine bK 14 ?_ TT.mk
 refine Gg ?_;refine WL.step (ae rfl) rfl rfl rfl ?_;refine Gg ?_;refine WL.ld rfl (by first | exact aa hb rfl | assumption) rfl rfl rfl ?_
 refine Gg ?_;refine Go ?_;refine Gs [(0,_),(1,_),(22,_)] ?_
 refine aH 1 2 ?_ TT.mk
 all_goals (refine aw 2 ?_)
 refine WC.skip ?_;refine Gn ?_;refine G2 ?_;refine WL.step (ae rfl) rfl rfl rfl (Go ?_);refine WL.ld rfl (by first | exact aa hb rfl | assumption) rfl rfl rfl (Go ?_)
 refine WL.step (fh Tryz.underlying23 Tryz.sizeOf5 rfl rfl rfl (by omega)) rfl rfl rfl (Go ?_)
 refine Gs [(0,_),(1,_),(6,_)] ?_;refine G2 ?_;refine WL.step (ae rfl) rfl rfl rfl (Go ?_);refine WL.ld rfl (by first | exact aa hb rfl | assumption) rfl rfl rfl (Go ?_)
 refine WL.step (dL Tryz.underlying23 Tryz.sizeOf5 rfl rfl (by omega)) rfl rfl rfl ?_
 refine WL.step (ae rfl) rfl rfl rfl (Go ?_);refine WL.ax (aB Tryz.sizeOf23 rfl rfl hb (Nat.le_of_ble_eq_true rfl) rfl rfl) rfl rfl ?_
 rintro _ h2 ⟨bH,aI⟩
 refine Gn ?_;refine Gs [(6,_)] ?_;refine G2 ?_;refine Gt ?_
 have r1:=Rd.yB (hr.take hn)
 have r2:=hr.drop hn
 rw [show (bA l).take (n * 1)=bA (l.take n) by simp [bA]] at r1
 rw [show (bA l).drop (n * 1)=bA (l.drop n) by simp [bA]] at r2
 have n2:∀ q,(Value.slice (if c=n then A else A.map (fun x=>x.add (n * 1))) (l.length - n) (c - n)).ownBlock=some q→q ≠ b:=fun q hq=>hne q (pR hq)
 exact ⟨A,n,_,rfl,r1.ext aI (fun q hq=>hne q (yC hq)),⟨bH,by rw [List.length_drop];exact r2.ext aI n2,n2⟩,aI,fun q hq=>pR hq⟩
theorem Ay (s r:List UInt8) (hs:Lib.indexByte (s++0 :: r) 0=s.length) (k:Sc h b v (s++0 :: r)) (hm:(s++0 :: r).length≤1000000):ag Tryz.prog 128 ⟨[.pointer (some ⟨b,0,none⟩)]⟩ h fun u h'=>∃ v',u=St s∧Sc h' b v' r∧Ext (fun q=>q=b) h h'∧SO v v':=by
 have kg:=fun (h':ah) (k:Sc h' b v (s++0 :: r))=>iX k
 have kc:=fun (h':ah) (k:Sc h' b v (s++0 :: r))=>qG k (s.length+1) (by simp) hm
 have hb:=k.bm
 have ki:=dz _ 0 k.rd (by simp;omega)
 rw [hs] at ki
 have e1:(s++0 :: r).drop (s.length+1)=r:=by rw [List.drop_append];simp
 have e2:(s++0 :: r).take (s.length+1)=s++[0]:=by rw [List.take_append,List.take_of_length_le (by omega)];simp
 rw [e1,e2] at kc
 have hms:s.length+1≤1000000:=by simp at hm;omega
 refine calls [(0,_)] Tryz.func128 rfl Tryz.ntmps128 rfl ⟨rfl,trivial⟩ ?_
 refine G2 ?_;refine G3 ?_;refine WL.call (vs:=[_]) rfl Tryz.call132 rfl (kg _ k) rfl rfl rfl ?_
 rintro _ hq ⟨rfl,hz⟩
 replace hz:=hz.symm
 subst hz
 refine Go ?_
 refine aH 1 2 ?_ TT.mk
 all_goals (refine aw 2 ?_)
 refine WC.skip ?_;refine Gn ?_;refine Gs [(0,_)] ?_;refine G2 ?_;refine WL.step (ae rfl) rfl rfl rfl (Go ?_);refine WL.ld rfl (by first | exact aa hb rfl | assumption) rfl rfl rfl ?_
 refine WL.call (vs:=[_,_]) rfl Tryz.call126 rfl (ki) rfl rfl rfl ?_
 rintro _ hq ⟨rfl,hz⟩
 replace hz:=hz.symm
 subst hz
 refine Go ?_;refine Gs [(0,_),(3,_)] ?_;refine G3 ?_
 refine aH 3 4 ?_ TT.mk
 all_goals (refine aw 4 ?_)
 refine WC.skip ?_;refine Gn ?_;refine G2 ?_
 rw [show ((s.length:Int)+1)=((s.length+1:Nat):Int) from rfl]
 refine WL.call (vs:=[_,_]) rfl Tryz.call175 rfl (kc _ k) rfl rfl rfl ?_
 rintro _ h2 ⟨A2,c2,v2,rfl,r2,k2,aI,C1⟩
 have r3:=r2.take (k:=s.length) (by omega)
 rw [show (bA (s++[0])).take (s.length * 1)=bA s by simp [bA]] at r3
 have hcap:s.length+1≤c2:=by obtain ⟨A1,c1,hv,hcap,_⟩:=id r2;simp only [Value.slice.injEq] at hv;obtain ⟨_,_,rfl⟩:=hv;exact hcap
 refine Go ?_;refine Gs [(3,_),(4,_)] ?_;refine G2 ?_;refine WL.step (lI Tryz.underlying23 Tryz.sizeOf5 rfl rfl (by omega)) rfl rfl rfl ?_
 refine WL.step (dM Tryz.underlying23 Tryz.underlying5 Tryz.underlying9 rfl r3) rfl rfl rfl (Go ?_);refine Gs [(2,_)] ?_;refine Gt ?_
 exact ⟨_,rfl,k2,aI,C1⟩
theorem jd {n:Int} {s:Nat} (hz:Sz s) (h0:0≤n) (h1:n < 256 ^ s) (r:List UInt8) (k:Sc h b v (be n s++r)) (hm:(be n s++r).length≤1000000):ag Tryz.prog 122 ⟨[.pointer (some ⟨b,0,none⟩),In s]⟩ h fun u h'=>∃ v',u=In n∧Sc h' b v' r∧Ext (fun q=>q=b) h h'∧SO v v':=by
 have hln:s≤(be n s++r).length:=by rw [List.length_append,bn];omega
 have et:(be n s++r).take s=be n s:=by exact List.take_left' (bn n s)
 have ed:(be n s++r).drop s=r:=by exact List.drop_left' (bn n s)
 have kc:=fun (h':ah) (k:Sc h' b v (be n s++r))=>qG k s hln hm
 have kr:=fun (h':ah)=>pH (h:=h') 0 s hz (by unfold Rt;rcases hz with rfl | rfl | rfl <;> decide)
 have kn:=fun (h':ah) (A:Option Addr) (c:Nat) (r':Rd h' (.slice A s c) 1 s (bA (be n s)))=>H6 hz (be n s) (A:=A) (c:=c) (by rw [bn];exact r') 0 (by rw [bn];omega) (by rw [bn];unfold Sz at hz;omega)
 rw [et,ed] at kc
 simp only [bn,List.drop_zero,List.take_of_length_le (Nat.le_of_eq (bn n s)),qF h0 h1] at kn
 refine calls [(0,_),(1,_)] Tryz.func122 rfl Tryz.ntmps122 rfl ⟨rfl,rfl,trivial⟩ ?_
 refine G2 ?_;refine G3 ?_;refine WL.call (vs:=[_,_]) rfl Tryz.call173 rfl (kr _) rfl rfl rfl ?_
 rintro _ hq ⟨rfl,hz⟩
 replace hz:=hz.symm
 subst hz
 refine Go ?_
 refine aH 1 2 ?_ TT.mk
 all_goals (refine aw 2 ?_)
 refine WC.skip ?_;refine Gn ?_;refine Gs [(0,_),(1,_)] ?_;refine G2 ?_;refine WL.call (vs:=[_,_]) rfl Tryz.call175 rfl (kc _ k) rfl rfl rfl ?_
 rintro _ h2 ⟨A2,c2,v2,rfl,r2,k2,aI,C1⟩
 refine Go ?_;refine Gs [(0,_),(1,_),(5,_),(6,_)] ?_;refine G3 ?_
 refine aH 3 4 ?_ TT.mk
 all_goals (refine aw 4 ?_)
 refine WC.skip ?_;refine Gn ?_;refine G2 ?_;refine WL.call (vs:=[_,_,_]) rfl Tryz.call176 rfl (kn _ _ _ r2) rfl rfl rfl ?_
 rintro _ hq ⟨rfl,hz⟩
 replace hz:=hz.symm
 subst hz
 refine Go ?_;refine Gs [(0,_),(7,_),(8,_)] ?_;refine G3 ?_
 refine aH 5 6 ?_ TT.mk
 all_goals (refine aw 6 ?_)
 refine WC.skip ?_;refine Gn ?_;refine Gs [(7,_)] ?_;refine G2 ?_;refine Gt ?_
 exact ⟨_,rfl,k2,aI,C1⟩
theorem Az {s r:List UInt8} (hc:aY s=true):Lib.indexByte (s++0 :: r) 0=s.length:=by
 induction s with
 | nil=>rfl
 | cons a s ih =>
   have h1:a ≠ 0∧aY s=true:=by
     simp only [aY,List.contains_cons,Bool.not_or,Bool.and_eq_true,Bool.not_eq_true'] at hc
     exact ⟨fun e=>by subst e;simp at hc,by simp only [aY,hc.2,Bool.not_false]⟩
   have e:=ih h1.2
   rw [List.cons_append,Lib.indexByte,if_neg (by simpa using h1.1),e,if_neg (by simp),List.length_cons]
   omega
theorem fJ {s r:List UInt8} (hc:aY s=true) (k:Sc h b v (s++[0]++r)) (hm:(s++[0]++r).length≤1000000):ag Tryz.prog 128 ⟨[.pointer (some ⟨b,0,none⟩)]⟩ h fun u h'=>∃ v',u=St s∧Sc h' b v' r∧Ext (fun q=>q=b) h h'∧SO v v':=by
 rw [List.append_assoc] at k hm
 exact Ay s r (Az hc) k hm
theorem AA {s r:List UInt8} (k:Sc h b v (s++r)) (hm:(s++r).length≤1000000):ag Tryz.prog 179 ⟨[.pointer (some ⟨b,0,none⟩),In (s.length:Int)]⟩ h fun u h'=>∃ v',Own h' u 5 1 s.length (bA s)∧Sc h' b v' r∧Ext (fun q=>q=b) h h'∧SO v v'∧∀ q,u.ownBlock=some q→h.size≤q:=by
 have et:(s++r).take s.length=s:=List.take_left' rfl
 have ed:(s++r).drop s.length=r:=List.drop_left' rfl
 have kc:=fun (h':ah) (k:Sc h' b v (s++r))=>qG k s.length (by simp) hm
 rw [et,ed] at kc
 refine calls [(0,_),(1,_)] Tryz.func179 rfl Tryz.ntmps179 rfl ⟨rfl,rfl,trivial⟩ ?_
 refine G2 ?_;refine G2 ?_;refine WL.call (vs:=[_,_]) rfl Tryz.call175 rfl (kc _ k) rfl rfl rfl ?_
 rintro _ h2 ⟨A2,c2,v2,rfl,r2,k2,aI,C1⟩
 refine Go ?_;refine Gs [(5,_)] ?_;refine G2 ?_;refine WL.call (vs:=[_]) rfl Tryz.call127 rfl (jD s r2 (by simp at hm;omega)) rfl rfl rfl ?_
 rintro v3 h3 ⟨dN,aQ,gS⟩
 refine Go ?_;refine Gt ?_
 exact ⟨_,dN,k2.ext aQ aO (fun _ _=>aO),aI.trans (aQ.mono fun _ _ e=>e.elim),C1,fun q hq=>by have:=gS q hq;have:=aI.size;omega⟩
end
section
variable {h h':ah} {b:Nat} {v:Value} {l:List UInt8}
theorem AB (k:Sc h b v l):ag Tryz.prog 178 ⟨[.pointer (some ⟨b,0,none⟩)]⟩ h fun u h'=>u=.bool false∧h'=h:=by
 have kg:=iX k
 refine calls [(0,_)] Tryz.func178 rfl Tryz.ntmps178 rfl ⟨rfl,trivial⟩ ?_
 refine G2 ?_;refine G2 ?_;refine WL.call (vs:=[_]) rfl Tryz.call132 rfl (kg) rfl rfl rfl ?_
 rintro _ hq ⟨rfl,hz⟩
 replace hz:=hz.symm
 subst hz
 refine Go ?_;refine Gs [(2,_)] ?_;refine Gt ?_
 exact ⟨rfl,rfl⟩
def dB (s:Nat) (L:List Int):List UInt8:=L.flatMap fun n=>be n s
theorem pg {s:Nat} {L:List Int} {k:Nat} {y:Int} (hy:L[k]?=some y):dB s (L.drop k)=be y s++dB s (L.drop (k+1)):=by
 obtain ⟨hlt,rfl⟩:=List.getElem?_eq_some_iff.1 hy
 have e:L.drop k=L[k] :: L.drop (k+1):=List.drop_eq_getElem_cons hlt
 unfold dB
 rw [e,List.flatMap_cons]
theorem cD (s:Nat) (L:List Int):(dB s L).length=L.length * s:=by
 induction L with
 | nil=>simp [dB]
 | cons a L ih=>rw [show dB s (a :: L)=be a s++dB s L by simp [dB],List.length_append,bn,ih,List.length_cons,Nat.succ_mul];omega
theorem qH {s:Nat} (hz:Sz s) (L:List Int) (hn:∀ n∈L,0≤n∧n < 256 ^ s) (hl:L.length≤65535) (r:List UInt8) (k:Sc h b v (be L.length 2++(dB s L++r))) (hv:∀ q,v.ownBlock=some q→q < h.size) (hm:(be L.length 2++(dB s L++r)).length≤1000000) :
   ag Tryz.prog 129 ⟨[.agg ⟨[.pointer (some ⟨b,0,none⟩)]⟩,In s]⟩ h fun u h'=>∃ v',Own h' u 3 1 L.length (ints L)∧Sc h' b v' r∧Ext (fun q=>q=b) h h'∧SO v v'∧∀ q,u.ownBlock=some q→h.size≤q:=by
 have kn:=fun (g:ah) (v:Value) (n:Int) (r:List UInt8)=>jd (h:=g) (b:=b) (v:=v) (n:=n) (s:=s) hz (r:=r)
 have hlb:=ai k.bm
 have hml:(dB s L++r).length≤1000000:=by rw [List.length_append] at hm;omega
 refine calls [(0,_),(1,_)] Tryz.func129 rfl Tryz.ntmps129 rfl ⟨rfl,rfl,trivial⟩ ?_
 refine WC.sr ?_;refine WL.aj (aG rfl) rfl rfl rfl ?_
 rintro _ h1 ⟨b1,rfl,bR,aR,az⟩
 have n1:b1 ≠ b:=by omega
 refine Go ?_;refine G2 ?_;refine G3 ?_;refine WL.ld rfl (by first | exact aa aR rfl | assumption) rfl rfl rfl ?_
 refine WL.call (vs:=[_,_]) rfl Tryz.call122 rfl (jd (s:=2) (.inr (.inl rfl)) (by omega) (by omega) _ (k.ext az aO (fun _ _=>aO)) hm) rfl rfl rfl ?_
 rintro _ h2 ⟨v2,rfl,k2,aI,C1⟩
 have bT:=aI.obj aR n1
 have X2:Ext (fun q=>q=b) h h2:=(az.mono fun _ _ e=>e.elim).trans aI
 refine Go ?_;refine Gs [(1,_),(2,_),(5,_),(6,_)] ?_;refine WC.block ?_;refine WC.bD (X:=Nat × Value × Value) (fun x=>([(6,In ((L.length - x.1:Nat):Int)),(5,x.2.1)]:Fr)) [(1,_),(2,_)] (fun x h'=>x.1≤L.length∧Sc h' b x.2.2 (dB s (L.drop x.1)++r)∧Own h' x.2.1 3 1 x.1 (ints (L.take x.1))∧Ext (fun q=>q=b) h2 h'∧SO v x.2.2∧∀ q,x.2.1.ownBlock=some q→h2.size≤q) (fun x=>L.length - x.1) ((0,.slice none 0 0,v2)) ⟨rfl,rfl,rfl,rfl,trivial⟩ (by exact ⟨Nat.zero_le _,k2,Own.nil _ _ _,.refl _ _,C1,fun _ e=>by cases e⟩) ?_
 rintro ⟨j,u,w⟩ h3 ⟨hj,k3,dN,aQ,C2,gS⟩
 dsimp only at hj k3 dN gS
 have cw:=aQ.obj bT n1
 have s1:=az.size
 have s2:=aI.size
 have s3:=aQ.size
 refine WC.sub [(5,_),(6,_),(1,_),(2,_)] ⟨rfl,rfl,rfl,rfl,trivial⟩ ?_
 dsimp only
 refine G3 ?_
 refine bK 12 (Hb.mk fun hb=>?_) (Hb.mk fun hb=>?_)
 all_goals (refine Gg ?_;first | refine WL.pass rfl rfl rfl ?_ | (refine WL.ld rfl (by first | exact aa cw rfl | assumption) rfl rfl rfl ?_))
 all_goals (
  first
    | (refine WL.pass rfl rfl rfl ?_)
    | (refine WL.call (vs:=[_]) rfl Tryz.call178 rfl (AB k3) rfl rfl rfl ?_
       rintro _ hq ⟨rfl,lU⟩
       replace lU:=lU.symm
       subst lU))
 all_goals (refine Gg ?_;refine Go ?_;refine Gs [(1,_),(2,_),(5,_),(6,_),(17,_)] ?_;refine aH 1 2 ?_ TT.mk)
 all_goals try (
 refine aw 1 ?_
 refine WC.skip ?_
 skip)
 all_goals try (
 refine aw 2 ?_
 refine WC.exit ?_
 repeat' (with_reducible first | refine aU ?_ | refine aD rfl ?_ | refine aJ ?_ | refine aL ?_ | refine aS ?_)
 refine Br.out (i:=1000) ?_
 skip)
 all_goals (refine Gn ?_;first | refine Br.ab ?_ | refine WC.seq ?_)
 all_goals (first | refine Br.ab ?_ | refine WC.block ?_)
 all_goals (first | refine Br.ab ?_ | refine WC.region ?_)
 all_goals (
  first
    | (refine Br.ab ?_)
    | (obtain ⟨y,hy⟩:∃ y,L[j]?=some y:=⟨_,List.getElem?_eq_getElem (by omega)⟩
       have hyn:=hn y (List.mem_of_getElem? hy)
       rw [pg hy,List.append_assoc] at k3
       have hmj:(be y s++(dB s (L.drop (j+1))++r)).length≤1000000:=by
        have e1:=congrArg List.length (pg (s:=s) hy)
        have e2:=cD s (L.drop j)
        have e3:=cD s L
        have e4:(L.drop j).length * s≤L.length * s:=Nat.mul_le_mul_right s (by simp)
        simp only [List.length_append] at e1 hml ⊢
        omega))
 all_goals (first | refine Br.ab ?_ | refine WL.step (ak rfl) rfl rfl rfl ?_)
 all_goals (refine Go ?_;first | refine Br.ab ?_ | (refine WL.ld rfl (by first | exact aa cw rfl | assumption) rfl rfl rfl ?_))
 all_goals (refine Go ?_)
 all_goals (
  first
    | (refine Br.ab ?_)
    | (refine WL.call (vs:=[_,_]) rfl Tryz.call122 rfl (kn _ _ _ _ hyn.1 hyn.2 k3 hmj) rfl rfl rfl ?_
       rintro _ h4 ⟨v4,rfl,k4,aW,GN⟩))
 all_goals (
  first
    | (refine Br.ab ?_)
    | (refine WL.aj (au (vs:=[_]) (cs:=[_]) (fun | [a0]=>[a0] | _=>[]) Tryz.underlying39 rfl rfl (by kernel_rfl)) rfl rfl rfl ?_
       rintro _ h5 ⟨b5,rfl,qR,bV,aM⟩))
 all_goals (
  first
    | (refine Br.ab ?_)
    | (refine WL.aj (aT (sz:=1) (bytes:=8) rfl Tryz.underlying39 (show Tryz.prog.info? 3=some Tryz.t3 by kernel_rfl) rfl rfl rfl rfl (by decide) rfl rfl ((dN.ext aW (fun q hq e=>by have:=gS q hq;omega)).ext aM (fun _ _=>aO)) (bx (len:=1) (sz:=1) bV rfl) (by simp [Value.oneCell']) (by simp only [maxLen];omega) (by omega)) rfl rfl rfl ?_
       rintro v6 h6 ⟨gu,aN,Fu⟩))
 all_goals (first | refine Br.ab ?_ | have db:=(aM.obj (aW.obj cw n1) aO))
 all_goals (refine Go ?_;first | refine Br.ab ?_ | refine Gs [(1,_),(2,_),(5,_),(6,_)] ?_)
 all_goals (first | refine Br.ab ?_ | refine WC.region ?_)
 all_goals (first | refine Br.ab ?_ | refine WL.step (ak rfl) rfl rfl rfl ?_)
 all_goals (first | refine Br.ab ?_ | (first | refine WL.step (eY rfl rfl (by omega)) rfl rfl rfl ?_ | skip))
 all_goals (first | refine Br.ab ?_ | (rw [show ((L.length - j:Nat):Int) - 1=((L.length - (j+1):Nat):Int) by omega]))
 all_goals (refine Go ?_;first | refine Br.ab ?_ | (exact ⟨(j+1,_,_),⟨rfl,rfl,rfl,rfl,trivial⟩,(by exact ⟨by omega,(k4.ext aM aO (fun _ _=>aO)).ext aN (fun e=>by have:=gS b e;omega) (fun q hq e=>by have:=gS q e;have:=hv q (C2 q (GN q hq));have:=az.size;omega),by rw [List.take_add_one,hy];simpa using gu,(aQ.trans (aW.trans' aM (fun q hq e=>e.elim))).trans' aN (fun q hq e=>by have:=gS q e;omega),C2.trans GN,bU Fu gS (by have:=aW.size;have:=aM.size;omega)⟩),(by (try simp only []);omega)⟩))
 try (refine Br.mk (i:=1000) ?_)
 refine Gn ?_;refine Gs [(5,_)] ?_;refine G2 ?_;refine Gt ?_
 rw [List.take_of_length_le (by omega),show j=L.length by omega] at dN
 rw [show j=L.length by omega,List.drop_length] at k3
 exact ⟨_,dN,k3,X2.trans aQ,C2,fun q e=>by have:=gS q e;have:=X2.size;omega⟩
def F5 (c:(Bool × List UInt8)):List UInt8:=if c.1=true then be 4294967295 4 else be c.2.length 4++c.2
def fK (R:List (Bool × List UInt8)):List UInt8:=R.flatMap F5
theorem ph {R:List (Bool × List UInt8)} {k:Nat} {y:(Bool × List UInt8)} (hy:R[k]?=some y):fK (R.drop k)=F5 y++fK (R.drop (k+1)):=by
 obtain ⟨hlt,rfl⟩:=List.getElem?_eq_some_iff.1 hy
 have e:R.drop k=R[k] :: R.drop (k+1):=List.drop_eq_getElem_cons hlt
 unfold fK
 rw [e,List.flatMap_cons]
theorem C3 (R:List (Bool × List UInt8)) (k:Nat):(fK (R.drop k)).length≤(fK R).length:=by
 have e:fK R=fK (R.take k)++fK (R.drop k):=by
   unfold fK
   rw [← List.flatMap_append,List.take_append_drop]
 rw [e,List.length_append]
 omega
structure oy (h0 h:ah) (u:Value) (L:List aX) (n:Nat):Prop where
 own:Own h u 85 2 n (L.flatMap aX.cells)
 ok:∀ c∈L,c.ok h
 vf:∀ q,u.ownBlock=some q→h0.size≤q
 cf:∀ c∈L,∀ q,0 < c.bytes.length→c.v.ownBlock=some q→h0.size≤q∧u.ownBlock ≠ some q
theorem oy.nil (h0 h:ah):oy h0 h (.slice none 0 0) [] 0:=⟨Own.nil _ _ _,(fun _ h=>nomatch h),(fun _ e=>by cases e),fun _ h=>nomatch h⟩
theorem oy.ext {h0 h h':ah} {S:Nat→Prop} {u:Value} {L:List aX} {n:Nat} (k:oy h0 h u L n) (x:Ext S h h') (hS:∀ q,S q→q < h0.size):oy h0 h' u L n :=
 ⟨k.own.ext x fun q hq e=>by have:=k.vf q hq;have:=hS q e;omega,fun c hc=>⟨(k.ok c hc).1.ext' x fun q h1 hq e=>by have:=(k.cf c hc q h1 hq).1;have:=hS q e;omega,(k.ok c hc).2⟩,k.vf,k.cf⟩
theorem oy.snoc {h0 h h':ah} {u v':Value} {L:List aX} {n:Nat} {c:aX} (k:oy h0 h u L n) (hc:c.ok h) (hf:∀ q,0 < c.bytes.length→c.v.ownBlock=some q→h0.size≤q∧u.ownBlock ≠ some q) (ho:Own h' v' 85 2 (n+1) (L.flatMap aX.cells++c.cells)) (hx:Ext (fun q=>u.ownBlock=some q) h h') (hl:v'.ownBlock=u.ownBlock∨v'.ownBlock=some h.size) (hs:h0.size≤h.size):oy h0 h' v' (L++[c]) (n+1):=by
 have key:∀ x∈L++[c],x.ok h∧∀ q,0 < x.bytes.length→x.v.ownBlock=some q→h0.size≤q∧u.ownBlock ≠ some q:=fun x hx=>by
   rcases List.mem_append.1 hx with hx | hx
   · exact ⟨k.ok x hx,k.cf x hx⟩
   · rw [List.mem_singleton.1 hx]
     exact ⟨hc,hf⟩
 refine ⟨by simpa using ho,fun x aI=>⟨(key x aI).1.1.ext' hx fun q h1 hq e=>((key x aI).2 q h1 hq).2 e,(key x aI).1.2⟩,bU hl k.vf hs,fun x aI q h1 hq=>⟨((key x aI).2 q h1 hq).1,fun e=>?_⟩⟩
 rcases hl with z | z
 · exact ((key x aI).2 q h1 hq).2 (z▸e)
 · rw [z] at e
   have:=(key x aI).1.1.lt h1 hq
   simp only [Option.some.injEq] at e
   omega
theorem F6 (R:List (Bool × List UInt8)) (hc:∀ c∈R,(c.1=true→c.2.length=0)∧c.2.length≤1000000) (hl:R.length≤65535) (r:List UInt8) (k:Sc h b v (be R.length 2++(fK R++r))) (hv:∀ q,v.ownBlock=some q→q < h.size) (hm:(be R.length 2++(fK R++r)).length≤1000000) :
   ag Tryz.prog 130 ⟨[.agg ⟨[.pointer (some ⟨b,0,none⟩)]⟩]⟩ h fun u h'=>∃ v' L,cF h' u L∧L.map aX.pl=R∧Sc h' b v' r∧Ext (fun q=>q=b) h h'∧SO v v'∧∀ q,du u L q→h.size≤q:=by
 have kn:=fun (g:ah) (v:Value) (n:Int) (r:List UInt8)=>jd (h:=g) (b:=b) (v:=v) (n:=n) (s:=4) (.inr (.inr rfl)) (r:=r)
 have hlb:=ai k.bm
 have hml:(fK R++r).length≤1000000:=by rw [List.length_append] at hm;omega
 refine calls [(0,_)] Tryz.func130 rfl Tryz.ntmps130 rfl ⟨rfl,trivial⟩ ?_
 refine WC.sr ?_;refine WL.aj (aG rfl) rfl rfl rfl ?_
 rintro _ h1 ⟨b1,rfl,bR,aR,az⟩
 have n1:b1 ≠ b:=by omega
 refine Go ?_;refine G2 ?_;refine G3 ?_;refine WL.ld rfl (by first | exact aa aR rfl | assumption) rfl rfl rfl ?_
 refine WL.call (vs:=[_,_]) rfl Tryz.call122 rfl (jd (s:=2) (.inr (.inl rfl)) (by omega) (by omega) _ (k.ext az aO (fun _ _=>aO)) hm) rfl rfl rfl ?_
 rintro _ h2 ⟨v2,rfl,k2,aI,C1⟩
 have bT:=aI.obj aR n1
 have X2:Ext (fun q=>q=b) h h2:=(az.mono fun _ _ e=>e.elim).trans aI
 refine Go ?_;refine Gs [(1,_),(3,_),(4,_)] ?_;refine WC.block ?_;refine WC.bD (X:=Nat × Value × Value × List aX) (fun x=>([(4,In ((R.length - x.1:Nat):Int)),(3,x.2.1)]:Fr)) [(1,_)] (fun x h'=>x.1≤R.length∧Sc h' b x.2.2.1 (fK (R.drop x.1)++r)∧oy h2 h' x.2.1 x.2.2.2 x.1∧x.2.2.2.map aX.pl=R.take x.1∧Ext (fun q=>q=b) h2 h'∧SO v x.2.2.1) (fun x=>R.length - x.1) ((0,.slice none 0 0,v2,[])) ⟨rfl,rfl,rfl,trivial⟩ (by exact ⟨Nat.zero_le _,k2,oy.nil _ _,rfl,.refl _ _,C1⟩) ?_
 rintro ⟨j,u,w,L⟩ h3 ⟨hj,k3,F7,H7,aQ,C2⟩
 dsimp only at hj k3 F7 H7 C2
 have H8:∀ q,q=b→q < h2.size:=fun q e=>by have:=ai k2.bm;omega
 have cw:=aQ.obj bT n1
 have s1:=az.size
 have s2:=aI.size
 have s3:=aQ.size
 refine WC.sub [(3,_),(4,_),(1,_)] ⟨rfl,rfl,rfl,trivial⟩ ?_
 dsimp only
 refine G3 ?_
 refine bK 11 (Hb.mk fun hb=>?_) (Hb.mk fun hb=>?_)
 all_goals (refine Gg ?_;first | refine WL.pass rfl rfl rfl ?_ | (refine WL.ld rfl (by first | exact aa cw rfl | assumption) rfl rfl rfl ?_))
 all_goals (
  first
    | (refine WL.pass rfl rfl rfl ?_)
    | (refine WL.call (vs:=[_]) rfl Tryz.call178 rfl (AB k3) rfl rfl rfl ?_
       rintro _ hq ⟨rfl,lU⟩
       replace lU:=lU.symm
       subst lU))
 all_goals (refine Gg ?_;refine Go ?_;refine Gs [(1,_),(3,_),(4,_),(16,_)] ?_;refine aH 1 2 ?_ TT.mk)
 all_goals try (
 refine aw 1 ?_
 refine WC.skip ?_
 skip)
 all_goals try (
 refine aw 2 ?_
 refine WC.exit ?_
 repeat' (with_reducible first | refine aU ?_ | refine aD rfl ?_ | refine aJ ?_ | refine aL ?_ | refine aS ?_)
 refine Br.out (i:=1000) ?_
 skip)
 all_goals (refine Gn ?_;first | refine Br.ab ?_ | refine WC.seq ?_)
 all_goals (first | refine Br.ab ?_ | refine WC.block ?_)
 all_goals (first | refine Br.ab ?_ | refine WC.sr ?_)
 all_goals (
  first
    | (refine Br.ab ?_)
    | (obtain ⟨⟨nl,bs⟩,hy⟩:∃ y,R[j]?=some y:=⟨_,List.getElem?_eq_getElem (by omega)⟩
       obtain ⟨LR,hyl⟩:=hc _ (List.mem_of_getElem? hy)
       dsimp only at LR hyl
       have hle:=C3 R j
       rw [ph hy,List.append_assoc] at k3
       rw [ph hy] at hle
       simp only [List.length_append] at hle hml
       unfold F5 at k3 hle
       dsimp only at k3 hle
       cases nl
       all_goals (first | (rw [if_neg (by decide)] at k3 hle) | rw [if_pos rfl] at k3 hle)
       all_goals (simp only [List.length_append,bn] at hle)
       all_goals (try rw [List.append_assoc] at k3)))
 all_goals (first | refine Br.ab ?_ | refine WL.step (ad rfl Tryz.underlying161 rfl Tryz.sizeOf158) rfl rfl rfl ?_)
 all_goals (first | refine Br.ab ?_ | (refine WL.ld rfl (by first | exact aa cw rfl | assumption) rfl rfl rfl ?_))
 all_goals (
  first
    | (refine Br.ab ?_)
    | (refine WL.call (vs:=[_,_]) rfl Tryz.call122 rfl (kn _ _ _ _ (by omega) (by omega) k3 (by simp only [List.length_append,bn];omega)) rfl rfl rfl ?_
       rintro _ h4 ⟨v4,rfl,k4,aW,GN⟩
       have bJ:=aW.obj cw n1
       have H9:=F7.ext aW H8
       have s4:=aW.size
       have hvo:∀ q,v4.ownBlock=some q→q < h2.size:=fun q hq=>(by have:=hv q (C2 q (GN q hq));omega)))
 all_goals (refine Go ?_;first | refine Br.ab ?_ | refine Gs [(1,_),(3,_),(4,_),(5,_)] ?_)
 all_goals (first | refine Br.ab ?_ | refine WC.seq ?_)
 all_goals (first | refine Br.ab ?_ | refine WC.sr ?_)
 all_goals (refine Go ?_;first | refine Br.ab ?_ | refine aH 3 4 ?_ TT.mk)
 all_goals try (
 refine aw 3 ?_
 refine G2 ?_;refine WL.step (aF (vs:=[_]) (cs:=[_,_]) (fun | [a0]=>[a0,(.slice none 0 0)] | _=>[]) rfl rfl (by kernel_rfl)) rfl rfl rfl ?_
 refine WL.aj (au (vs:=[_]) (cs:=[_,_]) (fun | [.agg ⟨[a0,a1]⟩]=>[a0,a1] | _=>[]) Tryz.underlying40 rfl rfl (by kernel_rfl)) rfl rfl rfl ?_
 rintro _ h5 ⟨b5,rfl,qR,bV,aM⟩
 refine WL.aj (aT (sz:=2) (bytes:=32) rfl Tryz.underlying40 (show Tryz.prog.info? 85=some Tryz.t85 by kernel_rfl) rfl rfl rfl rfl (by decide) rfl rfl (H9.ext aM (fun _ e=>e.elim)).own (bx (len:=1) (sz:=2) bV rfl) (by simp [Value.oneCell']) (by simp only [maxLen];omega) (by omega)) rfl rfl rfl ?_
 rintro v6 h6 ⟨gu,aN,Fu⟩
 have Jd:=H9.ext aM (fun _ e=>e.elim)
 obtain ⟨cc,hcc⟩:∃ c:aX,c=⟨true,.slice none 0 0,[]⟩:=⟨_,rfl⟩
 have riZ:=Jd.snoc (c:=cc) (by subst hcc;exact ⟨Rd.nil _ _,Nat.zero_le _⟩) (by subst hcc;exact fun _ h=>absurd h (Nat.lt_irrefl 0)) (by subst hcc;exact gu) aN Fu (by have:=aM.size;omega)
 have kZ:=(k4.ext aM aO (fun _ _=>aO)).ext aN (fun e=>by have:=Jd.vf b e;have:=H8 b rfl;omega) (fun q hq e=>by have:=Jd.vf q e;have:=hvo q hq;omega)
 have hpZ:cc.pl=(true,bs):=(by subst hcc;rw [List.eq_nil_of_length_eq_zero (LR rfl)];rfl)
 have XZ:=(aQ.trans (aW.trans' aM (fun q hq e=>e.elim))).trans' aN (fun q hq e=>by have:=Jd.vf q e;omega)
 have soZ:=C2.trans GN
 refine Go ?_;refine Gs [(1,_),(3,_),(4,_)] ?_;refine WC.exit ?_
 repeat' (with_reducible first | refine aU ?_ | refine aD rfl ?_ | refine aJ ?_ | refine aL ?_ | refine aS ?_)
 refine Br.out (i:=1001) ?_
 skip)
 all_goals try (
 refine aw 4 ?_
 refine WC.skip ?_
 skip)
 all_goals (refine Gn ?_;first | refine Br.ab ?_ | refine WC.region ?_)
 all_goals (refine Go ?_;first | refine Br.ab ?_ | (refine WL.ld rfl (by first | exact aa bJ rfl | assumption) rfl rfl rfl ?_))
 all_goals (refine Go ?_)
 all_goals (
  first
    | (refine Br.ab ?_)
    | (refine WL.call (vs:=[_,_]) rfl Tryz.call179 rfl (AA k4 (by simp only [List.length_append];omega)) rfl rfl rfl ?_
       rintro v5 h5 ⟨w5,eF,k5,aM,oz,fO⟩
       obtain ⟨A5,c5,rfl,_⟩:=eF.slice))
 all_goals (first | refine Br.ab ?_ | (refine WL.step (aF (vs:=[_]) (cs:=[_,_]) (fun | [a1]=>[(.bool false),a1] | _=>[]) rfl rfl (by kernel_rfl)) rfl rfl rfl ?_))
 all_goals (
  first
    | (refine Br.ab ?_)
    | (refine WL.aj (au (vs:=[_]) (cs:=[_,_]) (fun | [.agg ⟨[a0,a1]⟩]=>[a0,a1] | _=>[]) Tryz.underlying40 rfl rfl (by kernel_rfl)) rfl rfl rfl ?_
       rintro _ h6 ⟨b6,rfl,qQ,bX,aN⟩))
 all_goals (
  first
    | (refine Br.ab ?_)
    | (refine WL.aj (aT (sz:=2) (bytes:=32) rfl Tryz.underlying40 (show Tryz.prog.info? 85=some Tryz.t85 by kernel_rfl) rfl rfl rfl rfl (by decide) rfl rfl ((H9.ext aM H8).ext aN (fun _ e=>e.elim)).own (bx (len:=1) (sz:=2) bX rfl) (by simp [Value.oneCell']) (by simp only [maxLen];omega) (by omega)) rfl rfl rfl ?_
       rintro v7 h7 ⟨mV,ba,DD⟩))
 all_goals (
  first
    | (refine Br.ab ?_)
    | (have Je:=(H9.ext aM H8).ext aN (fun _ e=>e.elim)
       obtain ⟨cc,hcc⟩:∃ c:aX,c=⟨false,.slice A5 bs.length c5,bs⟩:=⟨_,rfl⟩
       have riZ:=Je.snoc (c:=cc) (by subst hcc;exact ⟨eF.rd.aq aN,by unfold reachBytes;show bs.length≤_;omega⟩) (by subst hcc;exact fun q _ hq=>⟨by have:=fO q hq;omega,fun e=>by have:=fO q hq;have:=H9.own.lt e;omega⟩) (by subst hcc;exact mV) ba DD (by have:=aM.size;have:=aN.size;omega)
       have kZ:=(k5.ext aN aO (fun _ _=>aO)).ext ba (fun e=>by have:=Je.vf b e;have:=H8 b rfl;omega) (fun q hq e=>by have:=Je.vf q e;have:=hvo q (oz q hq);omega)
       have hpZ:cc.pl=(false,bs):=(by subst hcc;rfl)
       have XZ:=((aQ.trans aW).trans (aM.trans' aN (fun q hq e=>e.elim))).trans' ba (fun q hq e=>by have:=Je.vf q e;omega)
       have soZ:=(C2.trans GN).trans oz))
 all_goals (refine Go ?_;try (refine Br.mk (i:=1001) ?_))
 all_goals (refine Gn ?_;first | refine Br.ab ?_ | refine WC.region ?_)
 all_goals (first | refine Br.ab ?_ | refine WL.step (ak rfl) rfl rfl rfl ?_)
 all_goals (first | refine Br.ab ?_ | (first | refine WL.step (eY rfl rfl (by omega)) rfl rfl rfl ?_ | skip))
 all_goals (first | refine Br.ab ?_ | (rw [show ((R.length - j:Nat):Int) - 1=((R.length - (j+1):Nat):Int) by omega]))
 all_goals (refine Go ?_;first | refine Br.ab ?_ | (exact ⟨(j+1,_,_,L++[cc]),⟨rfl,rfl,rfl,trivial⟩,(by exact ⟨by omega,kZ,riZ,by rw [List.map_append,H7,List.take_add_one,hy,List.map_singleton,hpZ];rfl,XZ,soZ⟩),(by (try simp only []);omega)⟩))
 try (refine Br.mk (i:=1000) ?_)
 refine Gn ?_;refine G2 ?_;refine Gs [(2,_)] ?_;refine Gt ?_
 obtain rfl:j=R.length:=by omega
 rw [List.drop_length] at k3
 rw [List.take_length] at H7
 have hlL:L.length=R.length:=(by rw [← H7,List.length_map])
 obtain ⟨A9,c9,rfl,Ny⟩:=F7.own.cap
 exact ⟨_,L,⟨by rw [hlL];exact F7.own.rd,⟨by unfold reachBytes;omega,_,_,by rw [hlL],Ny⟩,F7.ok⟩,H7,k3,X2.trans aQ,C2,fun q hq=>by
  have:=X2.size
  rcases hq with ⟨_,e⟩ | ⟨c,hc,h1,h2⟩
  · have:=F7.vf q e;omega
  · have:=(F7.cf c hc q h1 h2).1;omega⟩
end
abbrev LS:Value:=.slice none 0 0
def Bs (g h:ah) (v:Value) (l:List UInt8):Prop:=Own h v 5 1 l.length (bA l)∧Ext No g h∧∀ q,v.ownBlock=some q→g.size≤q
theorem Bs.nil (h:ah):Bs h h LS []:=⟨Own.nil _ _ _,.refl _ _,fun _ e=>by cases e⟩
theorem Bs.str {g h:ah} {v:Value} {l:List UInt8} (k:Bs g h v l) (s:List UInt8) (hl:l.length+s.length≤1000000000):ag Tryz.prog 65 ⟨[v,St s]⟩ h fun u h'=>Bs g h' u (l++s++[0]) :=
 (Au l s k.1 hl).mono fun _ _ ⟨ho,hr⟩=>⟨ho,hr.fresh k.2.1 k.2.2⟩
theorem Bs.list {g h:ah} {v w:Value} {l:List UInt8} (k:Bs g h v l) (L:List Int) (hw:Rd g w 1 L.length (ints L)) (hl:l.length≤1000000) (hm:L.length≤100) {s:Nat} (hs:Sz s) (h4:s≤4) (hn:∀ n∈L,Rt n s) :
   ag Tryz.prog 64 ⟨[v,w,In s]⟩ h fun u h'=>Bs g h' u (l++be L.length 2++dB s L) :=
 (CY l L k.1.rd (hw.aq k.2.1) hl hm hs h4 hn).mono fun _ _ ⟨ho,hx,hf⟩=>⟨ho,k.2.1.trans hx,fun q e=>by have:=hf q e;have:=k.2.1.size;omega⟩
theorem vX (R:List aX):R.flatMap cE=fK (R.map aX.pl):=by
 unfold fK
 rw [List.flatMap_map]
 rfl
theorem nD {R:List aX} (hm:R.length≤50) (hc:∀ c∈R,c.bytes.length≤300):(fK (R.map aX.pl)).length≤15200:=by
 have:=pf (f:=cE) (n:=304) R fun x hx=>by have:=hc x hx;unfold cE;split <;> simp [bn] <;> omega
 rw [vX] at this
 omega
theorem Bs.put {g h:ah} {v w:Value} {l:List UInt8} (k:Bs g h v l) (R:List aX) (hw:cF g w R) (hl:l.length≤1000000) (hm:R.length≤50) (hc:∀ c∈R,c.bytes.length≤300) :
   ag Tryz.prog 66 ⟨[v,w]⟩ h fun u h'=>Bs g h' u (l++be R.length 2++fK (R.map aX.pl)) :=
 (F0 l R k.1.rd (hw.aq k.2.1) hl (by omega) (fun c h=>by have:=hc c h;omega)).mono fun _ _ ⟨ho,hx,hf⟩=>⟨by rw [vX] at ho;exact ho,k.2.1.trans hx,fun q e=>by have:=hf q e;have:=k.2.1.size;omega⟩
def iq (f:Fm):List UInt8 :=
 if f.kind=80 then f.name++[0]++f.text++[0]++be f.oids.length 2++dB 4 f.oids
 else if f.kind=66 then f.portal++[0]++f.name++[0]++be f.formats.length 2++dB 2 f.formats++be f.params.length 2++fK (f.params.map aX.pl)++be f.results.length 2++dB 2 f.results
 else if f.kind=67∨f.kind=68 then [UInt8.ofNat f.what.toNat]++(f.name++f.portal)++[0]
 else if f.kind=69 then f.portal++[0]++be f.max 4
 else if f.kind=81 then f.text++[0]
 else []
theorem Ia {n:Int} (h:0≤n∧n≤65535):Rt n 2:=FZ (by omega)
theorem Ib {h:ah} (f:Fm) (hf:f.ok h) (w:f.vU):ag Tryz.prog 31 ⟨[.agg ⟨f.cells⟩]⟩ h fun u h' =>
   ((¬ f.may∧∃ e,e ≠ 0∧u=.tuple ⟨[.agg ⟨[.int .u8 0,LS]⟩,In e]⟩)∨(f.may∧∃ v m,u=.tuple ⟨[.agg ⟨[.int .u8 f.kind,v]⟩,In 0]⟩∧Own h' v 5 1 m.length (bA m)∧m=iq f∧m.length≤30000))∧Ext No h h':=by
 have kc:=fun {g:ah} (x:Ext No h g)=>Aw f (hf.aq x) w
 have hwd:=w
 obtain ⟨DY,DZ,D0,xM,Ax,F2,F3,F4⟩:=w
 have hmy:f.may→f.may:=id
 generalize hMY:f.may=MY at kc hmy
 have Ic:MY→(∀ n∈f.oids,0≤n∧n≤4294967295)∧(∀ n∈f.formats,0≤n∧n≤65535)∧(∀ n∈f.results,0≤n∧n≤65535)∧(-2147483648≤f.max∧f.max≤2147483647)∧Wh f.kind f.what:=fun z=>by
   rw [← hMY] at z
   exact ⟨z.oids,z.formats,z.results,z.max,z.what⟩
 clear hmy
 have hE:iq f=(if f.kind=80 then f.name++[0]++f.text++[0]++be f.oids.length 2++dB 4 f.oids
   else if f.kind=66 then f.portal++[0]++f.name++[0]++be f.formats.length 2++dB 2 f.formats++be f.params.length 2++fK (f.params.map aX.pl)++be f.results.length 2++dB 2 f.results
   else if f.kind=67∨f.kind=68 then [UInt8.ofNat f.what.toNat]++(f.name++f.portal)++[0]
   else if f.kind=69 then f.portal++[0]++be f.max 4
   else if f.kind=81 then f.text++[0]
   else []):=rfl
 generalize iq f=EM at hE ⊢
 obtain ⟨⟨e1,_⟩,⟨e2,_⟩,⟨e3,_⟩,e4⟩:=hf
 obtain ⟨fk,w,n,p,t,vo,o,vf,fs,vs,rs,vp,ps,mx⟩:=f
 dsimp only at e1 e2 e3 e4 DY DZ D0 xM Ax F2 F3 F4 Ic hE
 obtain ⟨A1,z1,rfl,_⟩:=id e1
 obtain ⟨A2,z2,rfl,_⟩:=id e2
 obtain ⟨A3,z3,rfl,_⟩:=id e3
 obtain ⟨_,⟨_,A4,z4,rfl,_⟩,_⟩:=id e4
 dsimp only [Fm.cells] at kc ⊢
 refine calls [(0,_)] Tryz.func31 rfl Tryz.ntmps31 rfl ⟨rfl,trivial⟩ ?_
 refine WC.sr ?_;refine WL.aj (aG rfl) rfl rfl rfl ?_
 rintro _ g1 ⟨b1,rfl,bR,aR,az⟩
 refine WL.aj (an (fun w=>Tryz.zeroValue53 w)) rfl rfl rfl ?_
 rintro _ g2 ⟨b2,rfl,gg,bH,aI⟩
 have bT:=aI.obj aR aO
 have l2:=ai bH
 have X2:=az.trans aI
 refine Go ?_;refine WC.seq ?_;refine WC.sr ?_;refine WL.step (ay Tryz.isAgg42 Tryz.sizeOf42 rfl rfl (by exact At.av bT)) rfl rfl rfl ?_
 refine WL.call (vs:=[_]) rfl Tryz.call63 rfl (kc X2) rfl rfl rfl ?_
 rintro _ g3 ⟨⟨e,rfl,he⟩,aQ⟩
 have cw:=aQ.obj bT aO
 have mg:=aQ.obj bH aO
 have X3:=X2.trans aQ
 have s1:=az.size
 have s3:=X3.size
 refine Go ?_;refine Gs [(1,_),(2,_),(4,_)] ?_;refine G2 ?_
 refine aH 1 2 (Hb.mk fun hb=>?_) (Hb.mk fun hb=>?_)
 all_goals try (
 refine aw 1 ?_
 refine WC.sr ?_;refine WL.step (aF (vs:=[]) (cs:=[_,_]) (fun | []=>[(.int .u8 0),(.slice none 0 0)] | _=>[]) rfl rfl (by kernel_rfl)) rfl rfl rfl (Go ?_)
 refine WL.ax (al Tryz.sizeOf53 rfl rfl rfl mg rfl (by simp [Value.oneCell'])) rfl rfl ?_
 rintro _ h9 ⟨bY,bZ⟩
 refine Go ?_;refine Gs [(2,_),(3,_)] ?_;refine WC.ret ?_
 repeat' (with_reducible first | refine aZ ?_ | refine aV ?_)
 refine cV _ _ ⟨⟨_,rfl,bB Tryz.isAgg53 Tryz.sizeOf53 bY rfl⟩,rfl,trivial⟩ ?_
 first
  | exact ⟨.inl ⟨fun z=>by have:=he.2 z;omega,e,by omega,rfl⟩,X3.trans' bZ (fun q hq z=>by omega)⟩
  | exact ⟨.inr ⟨hme,_,_,rfl,BZ.1.ext bZ (fun q hq z=>by have:=BZ.2.2 q hq;have:=ai mg;omega),by first | exact eM | (rw [hE,if_neg (by omega),if_neg (by omega),if_neg (by omega),if_neg (by omega),if_neg (by omega)]),lZ⟩,(X3.trans BZ.2.1).trans' bZ (fun q hq z=>by omega)⟩
 skip)
 all_goals (refine aw 2 ?_)
 refine WC.skip ?_;refine Gn ?_;refine G2 ?_;refine G3 ?_;refine WL.ld rfl (by first | exact aa cw rfl | assumption) rfl rfl rfl ?_
 have hme:MY:=he.1 (by omega)
 obtain ⟨y1,y2,y3,y4,y5⟩:=Ic hme
 unfold Wh at y5
 have B0:=Bs.nil g3
 have BZ:=B0
 have lZ:([]:List UInt8).length≤30000:=Nat.zero_le _
 have l4:=nD xM Ax
 have eM:True:=trivial
 have r1:=e1.aq X3
 have r2:=e2.aq X3
 have r3:=e3.aq X3
 have r4:=e4.aq X3
 refine Gn ?_;refine Gs [(1,_),(2,_),(5,_),(13,_)] ?_;refine WC.block ?_;refine G2 ?_
 refine aH 3 4 (Hb.mk fun hb=>?_) (Hb.mk fun hb=>?_)
 all_goals try (
 refine aw 3 ?_
 refine WC.bW (fun h'=>Ext No g3 h') 9 10 rfl dm ?_
 refine WH.tk 0 rfl (fun hq hC=>ad rfl Tryz.underlying42 rfl Tryz.sizeOf9) rfl rfl rfl ?_ (hC:=(by first | exact Ext.refl _ _ | assumption | exact B3.2.1 | exact B2.2.1 | exact B1.2.1))
 refine WH.tk 1 rfl (fun hq hC=>aA Tryz.isAgg9 rfl (by first | exact hC.cell (by first | exact aa cw rfl | assumption) aO)) rfl rfl rfl ?_ (hC:=(by first | exact Ext.refl _ _ | assumption | exact B3.2.1 | exact B2.2.1 | exact B1.2.1))
 refine WH.tk 3 rfl (fun hq hC=>ad rfl Tryz.underlying42 rfl Tryz.sizeOf9) rfl rfl rfl ?_ (hC:=(by first | exact Ext.refl _ _ | assumption | exact B3.2.1 | exact B2.2.1 | exact B1.2.1))
 refine WH.tk 4 rfl (fun hq hC=>aA Tryz.isAgg9 rfl (by first | exact hC.cell (by first | exact aa cw rfl | assumption) aO)) rfl rfl rfl ?_ (hC:=(by first | exact Ext.refl _ _ | assumption | exact B3.2.1 | exact B2.2.1 | exact B1.2.1))
 refine WH.tk 6 rfl (fun hq hC=>ad rfl Tryz.underlying42 rfl Tryz.sizeOf39) rfl rfl rfl ?_ (hC:=(by first | exact Ext.refl _ _ | assumption | exact B3.2.1 | exact B2.2.1 | exact B1.2.1))
 refine WH.tk 7 rfl (fun hq hC=>aA Tryz.isAgg39 rfl (by first | exact hC.cell (by first | exact aa cw rfl | assumption) aO)) rfl rfl rfl ?_ (hC:=(by first | exact Ext.refl _ _ | assumption | exact B3.2.1 | exact B2.2.1 | exact B1.2.1))
 refine WH.one 2 (by kernel_rfl) ?_
 refine aC.call (vs:=[_,_]) rfl rfl Tryz.call65 rfl (B0.str n (by simp;omega)) rfl rfl rfl ?_ (fun _=>by kernel_rfl)
 rintro v4 h4 B1
 refine ⟨fun _=>B1.2.1,?_⟩
 refine WH.one 5 (by kernel_rfl) ?_
 refine aC.call (vs:=[_,_]) rfl rfl Tryz.call65 rfl (B1.str t (by simp;omega)) rfl rfl rfl ?_ (fun _=>by kernel_rfl)
 rintro v5 h5 B2
 refine ⟨fun _=>B2.2.1,?_⟩
 refine WH.one 8 (by kernel_rfl) ?_
 refine aC.call (vs:=[_,_,_]) rfl rfl Tryz.call64 rfl (B2.list (s:=4) o r1 (by simp;omega) (by omega) CX (by decide) (fun n hn=>vV (by have:=y1 n hn;omega))) rfl rfl rfl ?_ (fun _=>by kernel_rfl)
 rintro v6 h6 B3
 refine ⟨fun _=>B3.2.1,?_⟩
 refine WH.one 9 (by kernel_rfl) ?_
 refine aC.run rfl (bN.r (aP rfl)) rfl rfl rfl ?_ (fun _=>by kernel_rfl)
 rintro _ hz ⟨rfl,_⟩
 subst hz
 refine ⟨fun e=>(by cases e),?_⟩
 have BZ:=B3
 have lZ:([]++n++[0]++t++[0]++be o.length 2++dB 4 o).length≤30000:=by simp [bn,cD];omega
 have eM:[]++n++[0]++t++[0]++be o.length 2++dB 4 o=EM:=by rw [hE,if_pos (by omega)];simp
 refine WH.done (by kernel_rfl) ?_
 skip)
 all_goals try (
 refine aw 4 ?_
 refine G2 ?_
 refine aH 5 6 (Hb.mk fun hb=>?_) (Hb.mk fun hb=>?_)
 all_goals try (
 refine aw 5 ?_
 refine WC.bW (fun h'=>Ext No g3 h') 15 16 rfl dm ?_
 refine WH.tk 0 rfl (fun hq hC=>ad rfl Tryz.underlying42 rfl Tryz.sizeOf9) rfl rfl rfl ?_ (hC:=(by first | exact Ext.refl _ _ | assumption | exact B5.2.1 | exact B4.2.1 | exact B3.2.1 | exact B2.2.1 | exact B1.2.1))
 refine WH.tk 1 rfl (fun hq hC=>aA Tryz.isAgg9 rfl (by first | exact hC.cell (by first | exact aa cw rfl | assumption) aO)) rfl rfl rfl ?_ (hC:=(by first | exact Ext.refl _ _ | assumption | exact B5.2.1 | exact B4.2.1 | exact B3.2.1 | exact B2.2.1 | exact B1.2.1))
 refine WH.tk 3 rfl (fun hq hC=>ad rfl Tryz.underlying42 rfl Tryz.sizeOf9) rfl rfl rfl ?_ (hC:=(by first | exact Ext.refl _ _ | assumption | exact B5.2.1 | exact B4.2.1 | exact B3.2.1 | exact B2.2.1 | exact B1.2.1))
 refine WH.tk 4 rfl (fun hq hC=>aA Tryz.isAgg9 rfl (by first | exact hC.cell (by first | exact aa cw rfl | assumption) aO)) rfl rfl rfl ?_ (hC:=(by first | exact Ext.refl _ _ | assumption | exact B5.2.1 | exact B4.2.1 | exact B3.2.1 | exact B2.2.1 | exact B1.2.1))
 refine WH.tk 6 rfl (fun hq hC=>ad rfl Tryz.underlying42 rfl Tryz.sizeOf39) rfl rfl rfl ?_ (hC:=(by first | exact Ext.refl _ _ | assumption | exact B5.2.1 | exact B4.2.1 | exact B3.2.1 | exact B2.2.1 | exact B1.2.1))
 refine WH.tk 7 rfl (fun hq hC=>aA Tryz.isAgg39 rfl (by first | exact hC.cell (by first | exact aa cw rfl | assumption) aO)) rfl rfl rfl ?_ (hC:=(by first | exact Ext.refl _ _ | assumption | exact B5.2.1 | exact B4.2.1 | exact B3.2.1 | exact B2.2.1 | exact B1.2.1))
 refine WH.tk 9 rfl (fun hq hC=>ad rfl Tryz.underlying42 rfl Tryz.sizeOf40) rfl rfl rfl ?_ (hC:=(by first | exact Ext.refl _ _ | assumption | exact B5.2.1 | exact B4.2.1 | exact B3.2.1 | exact B2.2.1 | exact B1.2.1))
 refine WH.tk 10 rfl (fun hq hC=>aA Tryz.isAgg40 rfl (by first | exact hC.cell (by first | exact aa cw rfl | assumption) aO)) rfl rfl rfl ?_ (hC:=(by first | exact Ext.refl _ _ | assumption | exact B5.2.1 | exact B4.2.1 | exact B3.2.1 | exact B2.2.1 | exact B1.2.1))
 refine WH.tk 12 rfl (fun hq hC=>ad rfl Tryz.underlying42 rfl Tryz.sizeOf39) rfl rfl rfl ?_ (hC:=(by first | exact Ext.refl _ _ | assumption | exact B5.2.1 | exact B4.2.1 | exact B3.2.1 | exact B2.2.1 | exact B1.2.1))
 refine WH.tk 13 rfl (fun hq hC=>aA Tryz.isAgg39 rfl (by first | exact hC.cell (by first | exact aa cw rfl | assumption) aO)) rfl rfl rfl ?_ (hC:=(by first | exact Ext.refl _ _ | assumption | exact B5.2.1 | exact B4.2.1 | exact B3.2.1 | exact B2.2.1 | exact B1.2.1))
 refine WH.one 2 (by kernel_rfl) ?_
 refine aC.call (vs:=[_,_]) rfl rfl Tryz.call65 rfl (B0.str p (by simp;omega)) rfl rfl rfl ?_ (fun _=>by kernel_rfl)
 rintro v4 h4 B1
 refine ⟨fun _=>B1.2.1,?_⟩
 refine WH.one 5 (by kernel_rfl) ?_
 refine aC.call (vs:=[_,_]) rfl rfl Tryz.call65 rfl (B1.str n (by simp;omega)) rfl rfl rfl ?_ (fun _=>by kernel_rfl)
 rintro v5 h5 B2
 refine ⟨fun _=>B2.2.1,?_⟩
 refine WH.one 8 (by kernel_rfl) ?_
 refine aC.call (vs:=[_,_,_]) rfl rfl Tryz.call64 rfl (B2.list (s:=2) fs r2 (by simp;omega) (by omega) CW (by decide) (fun n hn=>Ia (y2 n hn))) rfl rfl rfl ?_ (fun _=>by kernel_rfl)
 rintro v6 h6 B3
 refine ⟨fun _=>B3.2.1,?_⟩
 refine WH.one 11 (by kernel_rfl) ?_
 refine aC.call (vs:=[_,_]) rfl rfl Tryz.call66 rfl (B3.put ps r4 (by simp [bn,cD];omega) xM Ax) rfl rfl rfl ?_ (fun _=>by kernel_rfl)
 rintro v7 h7 B4
 refine ⟨fun _=>B4.2.1,?_⟩
 refine WH.one 14 (by kernel_rfl) ?_
 refine aC.call (vs:=[_,_,_]) rfl rfl Tryz.call64 rfl (B4.list (s:=2) rs r3 (by simp [bn,cD];omega) (by omega) CW (by decide) (fun n hn=>Ia (y3 n hn))) rfl rfl rfl ?_ (fun _=>by kernel_rfl)
 rintro v8 h8 B5
 refine ⟨fun _=>B5.2.1,?_⟩
 refine WH.one 15 (by kernel_rfl) ?_
 refine aC.run rfl (bN.r (aP rfl)) rfl rfl rfl ?_ (fun _=>by kernel_rfl)
 rintro _ hz ⟨rfl,_⟩
 subst hz
 refine ⟨fun e=>(by cases e),?_⟩
 have BZ:=B5
 have lZ:([]++p++[0]++n++[0]++be fs.length 2++dB 2 fs++be ps.length 2++fK (ps.map aX.pl)++be rs.length 2++dB 2 rs).length≤30000:=by simp [bn,cD];omega
 have eM:[]++p++[0]++n++[0]++be fs.length 2++dB 2 fs++be ps.length 2++fK (ps.map aX.pl)++be rs.length 2++dB 2 rs=EM:=by rw [hE,if_neg (by omega),if_pos (by omega)];simp
 refine WH.done (by kernel_rfl) ?_
 skip)
 all_goals try (
 refine aw 6 ?_
 refine G3 ?_;refine Gs [(1,_),(2,_),(5,_),(13,_),(42,_)] ?_
 refine aH 7 8 (Hb.mk fun hb=>?_) (Hb.mk fun hb=>?_)
 all_goals try (
 refine aw 7 ?_
 refine WC.skip ?_
 skip)
 all_goals try (
 refine aw 8 ?_
 refine WC.region (Go ?_)
 skip)
 all_goals (refine Gn ?_;refine aH 9 10 (Hb.mk fun hb=>?_) (Hb.mk fun hb=>?_))
 all_goals try (
 refine aw 9 ?_
 all_goals (refine WC.region (Go ?_);refine WL.ld rfl (by first | exact aa cw rfl | assumption) rfl rfl rfl ?_;refine WL.aj (au (vs:=[_]) (cs:=[_]) (fun | [a0]=>[a0] | _=>[]) Tryz.underlying23 rfl rfl (by kernel_rfl)) rfl rfl rfl ?_;rintro _ h4 ⟨b4,rfl,oG,bC,aW⟩;have bJ:=aW.obj cw aO;refine Go ?_;refine WL.ld rfl (by first | exact aa bJ rfl | assumption) rfl rfl rfl (Go ?_);refine WL.ld rfl (by first | exact aa bJ rfl | assumption) rfl rfl rfl ?_;refine WL.step (dn rfl rfl (by omega)) rfl rfl rfl ?_)
 all_goals (
  have Ie:0≤w∧w≤255:=by omega
  have fP:Own h4 (.slice (some ⟨b4,0,none⟩) 1 1) 5 1 ([UInt8.ofNat w.toNat]:List UInt8).length (bA [UInt8.ofNat w.toNat]):=by
   rw [pJ Ie]
   exact dE (len:=1) bC rfl (by decide))
 all_goals (refine WL.call (vs:=[_,_]) rfl Tryz.call65 rfl (Au [UInt8.ofNat w.toNat] (n++p) fP (by simp only [List.length_append,List.length_cons,List.length_nil];omega)) rfl rfl rfl ?_;rintro v5 h5 ⟨eF,Nz⟩;refine WL.step (aP rfl) rfl rfl rfl ?_;have BZ:Bs g3 h5 _ _:=⟨eF,Nz.fresh aW (fun q e=>by cases e;exact oG)⟩;(have lZ:([UInt8.ofNat w.toNat]++(n++p)++[0]).length≤30000:=by simp;omega);(have eM:[UInt8.ofNat w.toNat]++(n++p)++[0]=EM:=by rw [hE,if_neg (by omega),if_neg (by omega),if_pos (by omega)]);refine Gn ?_)
 skip)
 all_goals try (
 refine aw 10 ?_
 all_goals (refine G2 ?_;first | refine aH 11 12 ?_ TT.mk | (refine aH 11 12 (Hb.mk fun hb=>?_) (Hb.mk fun hb=>?_)))
 all_goals try (
 refine aw 11 ?_
 all_goals (refine WC.bW (fun h'=>Ext No g3 h') 6 7 rfl dm ?_;refine WH.tk 0 rfl (fun hq hC=>ad rfl Tryz.underlying42 rfl Tryz.sizeOf9) rfl rfl rfl ?_ (hC:=(by first | exact Ext.refl _ _ | assumption | exact B1.2.1));refine WH.tk 1 rfl (fun hq hC=>aA Tryz.isAgg9 rfl (by first | exact hC.cell (by first | exact aa cw rfl | assumption) aO)) rfl rfl rfl ?_ (hC:=(by first | exact Ext.refl _ _ | assumption | exact B1.2.1));refine WH.tk 3 rfl (fun hq hC=>ad rfl Tryz.underlying42 rfl Tryz.sizeOf3) rfl rfl rfl ?_ (hC:=(by first | exact Ext.refl _ _ | assumption | exact B1.2.1));refine WH.tk 4 rfl (fun hq hC=>aA Tryz.isAgg3 rfl (by first | exact hC.cell (by first | exact aa cw rfl | assumption) aO)) rfl rfl rfl ?_ (hC:=(by first | exact Ext.refl _ _ | assumption | exact B1.2.1));refine WH.one 2 (by kernel_rfl) ?_;refine aC.call (vs:=[_,_]) rfl rfl Tryz.call65 rfl (B0.str p (by simp;omega)) rfl rfl rfl ?_ (fun _=>by kernel_rfl);rintro v4 h4 B1;refine ⟨fun _=>B1.2.1,?_⟩;refine WH.one 5 (by kernel_rfl) ?_;refine aC.call (vs:=[_,_,_]) rfl rfl Tryz.call62 rfl (j6 _ mx 4 CX (vV (by omega)) B1.1.rd (by simp;omega)) rfl rfl rfl ?_ (fun _=>by kernel_rfl);rintro v5 h5 ⟨eF,aM,fO⟩;refine ⟨fun _=>B1.2.1.trans aM,?_⟩;refine WH.one 6 (by kernel_rfl) ?_;refine aC.run rfl (bN.r (aP rfl)) rfl rfl rfl ?_ (fun _=>by kernel_rfl);rintro _ hz ⟨rfl,_⟩;subst hz;refine ⟨fun e=>(by cases e),?_⟩;have BZ:Bs g3 h5 _ _:=⟨eF,B1.2.1.trans aM,fun q e=>by have:=fO q e;have:=B1.2.1.size;omega⟩;(have lZ:([]++p++[0]++be mx 4).length≤30000:=by simp [bn];omega);(have eM:[]++p++[0]++be mx 4=EM:=by rw [hE,if_neg (by omega),if_neg (by omega),if_neg (by omega),if_pos (by omega)];simp);refine WH.done (by kernel_rfl) ?_)
 skip)
 all_goals try (
 refine aw 12 ?_
 refine G2 ?_;refine Gs [(1,_),(2,_),(5,_),(62,_)] ?_
 refine aH 13 14 (Hb.mk fun hb=>?_) (Hb.mk fun hb=>?_)
 all_goals try (
 refine aw 13 ?_
 refine WC.region (Go ?_);refine WL.ld rfl (by first | exact aa cw rfl | assumption) rfl rfl rfl ?_
 refine WL.call (vs:=[_,_]) rfl Tryz.call65 rfl (B0.str t (by simp;omega)) rfl rfl rfl ?_
 rintro v4 h4 BZ
 have lZ:([]++t++[0]).length≤30000:=by simp;omega
 have eM:[]++t++[0]=EM:=by rw [hE,if_neg (by omega),if_neg (by omega),if_neg (by omega),if_neg (by omega),if_pos (by omega)];simp
 refine Go ?_
 skip)
 all_goals try (
 refine aw 14 ?_
 refine WC.skip ?_
 skip)
 skip)
 skip)
 skip)
 skip)
 all_goals (refine Gn ?_;refine WC.sr ?_;obtain ⟨AZ,cZ,eZ,_⟩:=id BZ.1.slice;try subst eZ)
 all_goals (refine WL.step (ad rfl Tryz.underlying42 rfl Tryz.sizeOf5) rfl rfl rfl ?_;refine WL.ld rfl (by first | exact aa (BZ.2.1.obj cw aO) rfl | assumption) rfl rfl rfl (Go ?_);refine WL.step (aF (vs:=[_,_]) (cs:=[_,_]) (fun | [a0,a1]=>[a0,a1] | _=>[]) rfl rfl (by kernel_rfl)) rfl rfl rfl ?_;refine WL.ax (al Tryz.sizeOf53 rfl rfl rfl (BZ.2.1.obj mg aO) rfl (by obtain ⟨_,_,e,_⟩:=BZ.1.slice;simp [Value.oneCell',e])) rfl rfl ?_;rintro _ h9 ⟨bY,bZ⟩;refine Go ?_;refine Gs [(2,_),(3,_)] ?_;refine WC.ret ?_;repeat' (with_reducible first | refine aZ ?_ | refine aV ?_))
 all_goals (refine cV _ _ ⟨⟨_,rfl,bB Tryz.isAgg53 Tryz.sizeOf53 bY rfl⟩,rfl,trivial⟩ ?_)
 all_goals (
  first
   | exact ⟨.inl ⟨fun z=>by have:=he.2 z;omega,e,by omega,rfl⟩,X3.trans' bZ (fun q hq z=>by omega)⟩
   | exact ⟨.inr ⟨hme,_,_,rfl,BZ.1.ext bZ (fun q hq z=>by have:=BZ.2.2 q hq;have:=ai mg;omega),by first | exact eM | (rw [hE,if_neg (by omega),if_neg (by omega),if_neg (by omega),if_neg (by omega),if_neg (by omega)]),lZ⟩,(X3.trans BZ.2.1).trans' bZ (fun q hq z=>by omega)⟩)
def vY (ms:List (Int × List UInt8)):List UInt8:=ms.flatMap fun m=>iv m.1 m.2
theorem AD (ms:List (Int × List UInt8)) (m:Int × List UInt8):vY (ms++[m])=vY ms++iv m.1 m.2:=by simp [vY]
theorem hY (k:Int) (l:List UInt8):(iv k l).length=5+l.length:=by simp [iv,bn];omega
theorem vZ {ms:List (Int × List UInt8)} (h:∀ m∈ms,m.2.length≤30000):(vY ms).length≤ms.length * 30005:=by
 induction ms with
 | nil=>simp [vY]
 | cons m ms ih =>
   have h1:=h m (List.mem_cons_self ..)
   have h2:=ih fun x hx=>h x (List.mem_cons_of_mem _ hx)
   have e:vY (m :: ms)=iv m.1 m.2++vY ms:=by simp [vY]
   rw [e,List.length_append,hY,List.length_cons,Nat.succ_mul]
   omega
noncomputable def uO (L:List Fm):List (Int × List UInt8):=L.flatMap fun f=>@ite _ f.may (Classical.propDecidable _) [(f.kind,iq f)] []
theorem pj (L:List Fm) (f:Fm):uO (L++[f])=uO L++@ite _ f.may (Classical.propDecidable _) [(f.kind,iq f)] []:=by simp [uO]
structure D1 (L:List Fm) (ms:List (Int × List UInt8)):Prop where
 len:ms.length≤L.length
 eq:ms=uO L
 ok:∀ m∈ms,0 < m.1∧m.1≤255∧m.2.length≤30000
 no:ms=[] ↔ ∀ f∈L,¬ f.may
theorem nE {k:Int} (h:K6 k):0 < k∧k≤255:=by unfold K6 at h;omega
theorem lW {α:Type} {l:List α} {k:Nat} {y:α} (hy:l[k]?=some y):l.take (k+1)=l.take k++[y]:=by rw [List.take_add_one,hy];rfl
theorem D1.NA {L:List Fm} {ms:List (Int × List UInt8)} (k:D1 L ms) {f:Fm} (h:¬ f.may):D1 (L++[f]) ms :=
 ⟨by have:=k.len;simp;omega,by rw [pj,← k.eq,@if_neg _ (Classical.propDecidable _) h,List.append_nil],k.ok,by
   rw [k.no]
   constructor
   · intro z x hx
     rcases List.mem_append.1 hx with hx | hx
     · exact z x hx
     · rw [List.mem_singleton.1 hx];exact h
   · exact fun z x hx=>z x (List.mem_append_left _ hx)⟩
theorem D1.one {L:List Fm} {ms:List (Int × List UInt8)} (k:D1 L ms) {f:Fm} (h:f.may) {m:List UInt8} (hm:m.length≤30000) (he:m=iq f):D1 (L++[f]) (ms++[(f.kind,m)]) :=
 ⟨by have:=k.len;simp;omega,by rw [pj,← k.eq,@if_pos _ (Classical.propDecidable _) h,he],fun x hx=>by
   rcases List.mem_append.1 hx with hx | hx
   · exact k.ok x hx
   · rw [List.mem_singleton.1 hx];exact ⟨(nE h.kind).1,(nE h.kind).2,hm⟩,⟨fun z=>by simp at z,fun z=>absurd h (z f (List.mem_append_right _ (List.mem_singleton.2 rfl)))⟩⟩
theorem C4 {h:ah} {v:Value} (L:List Fm) (hL:EP h v L) (w:∀ f∈L,f.vU) (hn:L.length≤100):ag Tryz.prog 9 ⟨[v]⟩ h fun u h'=>(∃ ms,D1 L ms∧Bs h h' u (vY ms)):=by
 obtain ⟨hr,hl,ok⟩:=hL
 obtain ⟨A,c,rfl,_⟩:=id hr
 refine calls [(0,_)] Tryz.func9 rfl Tryz.ntmps9 rfl ⟨rfl,trivial⟩ ?_
 refine G2 ?_;refine G2 ?_;refine G3 ?_;refine WC.block ?_;refine WC.bD (X:=Nat × Value) (fun x=>([(10,In (x.1:Int)),(3,x.2)]:Fr)) [(8,_),(9,_)] (fun x h'=>x.1≤L.length∧∃ ms,D1 (L.take x.1) ms∧Bs h h' x.2 (vY ms)) (fun x=>L.length - x.1) ((0,.slice none 0 0)) ⟨rfl,rfl,rfl,rfl,trivial⟩ (by exact ⟨Nat.zero_le _,[],⟨by simp,by simp [uO],by simp,by simp⟩,Bs.nil _⟩) ?_
 rintro ⟨k,u⟩ h1 ⟨hk,ms,fr,B1⟩
 dsimp only at hk fr B1
 refine WC.sub [(3,_),(10,_),(8,_),(9,_)] ⟨rfl,rfl,rfl,rfl,trivial⟩ ?_
 dsimp only
 refine G2 ?_;refine WC.seq ?_
 refine aH 1 2 (Hb.mk fun hb=>?_) (Hb.mk fun hb=>?_)
 all_goals try (
 refine aw 1 ?_
 refine WC.skip ?_
 skip)
 all_goals try (
 refine aw 2 ?_
 refine WC.exit ?_
 repeat' (with_reducible first | refine aU ?_ | refine aD rfl ?_ | refine aJ ?_ | refine aL ?_ | refine aS ?_)
 refine Br.out (i:=1000) ?_
 skip)
 all_goals (refine Gn ?_;first | refine Br.ab ?_ | refine WC.seq ?_)
 all_goals (first | refine Br.ab ?_ | refine WC.block ?_)
 all_goals (first | refine Br.ab ?_ | refine WC.sr ?_)
 all_goals (
  first
    | (refine Br.ab ?_)
    | (obtain ⟨bF,iF,hFA,_,hat⟩:=Rd.at_ hr (by omega)
       obtain ⟨f,hfk⟩:∃ f,L[k]?=some f:=⟨_,List.getElem?_eq_getElem (by omega)⟩
       have hmf:=List.mem_of_getElem? hfk
       have hd:At h1 bF (iF+k * 10) f.cells:=At.elem Fm.len (hat.ext B1.2.1 aO) hfk
       have okf:=ok f hmf
       have hfl:=vZ (fun m hm=>(fr.ok m hm).2.2)
       have KH:=fr.len
       rw [List.length_take] at KH))
 all_goals (first | refine Br.ab ?_ | (refine WL.step (aE Tryz.underlying22 Tryz.sizeOf42 rfl rfl rfl (by omega) (by first | rfl | assumption)) rfl rfl rfl ?_))
 all_goals (first | refine Br.ab ?_ | (refine WL.step (ay Tryz.isAgg42 Tryz.sizeOf42 rfl rfl (by exact hd)) rfl rfl rfl ?_))
 all_goals (
  first
    | (refine Br.ab ?_)
    | (refine WL.aj (an (fun w=>Tryz.zeroValue42 w)) rfl rfl rfl ?_
       rintro _ h2 ⟨b2,rfl,gg,bH,aI⟩))
 all_goals (
  first
    | (refine Br.ab ?_)
    | (refine WL.ax (al Tryz.sizeOf42 rfl rfl rfl (by assumption) rfl okf.one) rfl rfl ?_
       rintro _ h3 ⟨bq,aQ⟩))
 all_goals (first | refine Br.ab ?_ | (have Ig:Ext No h1 h3:=aI.trans' aQ (fun q hq e=>by omega)))
 all_goals (refine Gn ?_;first | refine Br.ab ?_ | refine WC.sr ?_)
 all_goals (first | refine Br.ab ?_ | (refine WL.step (ay Tryz.isAgg42 Tryz.sizeOf42 rfl rfl (by exact At.av bq)) rfl rfl rfl ?_))
 all_goals (
  first
    | (refine Br.ab ?_)
    | (refine WL.call (vs:=[_]) rfl Tryz.call31 rfl (Ib f (okf.aq (B1.2.1.trans Ig)) (w f hmf)) rfl rfl rfl ?_
       rintro _ h4 ⟨⟨hno,e,he,rfl⟩ | ⟨hmy,v4,m4,rfl,fP,NB,Jc⟩,aW⟩
       all_goals have gJ:=Ig.trans aW))
 all_goals (refine Go ?_)
 all_goals (
  first
    | (refine Br.ab ?_)
    | (refine WL.aj (an (fun w=>Tryz.zeroValue53 w)) rfl rfl rfl ?_
       rintro _ h5 ⟨b5,rfl,qR,bV,aM⟩))
 all_goals (
  first
    | (refine Br.ab ?_)
    | (refine WL.ax (al Tryz.sizeOf53 rfl rfl rfl (by assumption) rfl (by first | (obtain ⟨_,_,e,_⟩:=fP.slice;simp [Value.oneCell',e];done) | (simp [Value.oneCell'];done))) rfl rfl ?_
       rintro _ h6 ⟨bX,aN⟩))
 all_goals (first | refine Br.ab ?_ | (have KI:Ext No h1 h6:=gJ.trans (aM.trans' aN (fun q hq e=>by omega))))
 all_goals (refine Go ?_;first | refine Br.ab ?_ | refine Gs [(3,_),(6,_),(7,_),(8,_),(9,_),(10,_)] ?_)
 all_goals (first | refine Br.ab ?_ | refine WC.sr ?_)
 all_goals (refine Go ?_;first | refine Br.ab ?_ | refine aH 3 4 ?_ TT.mk)
 all_goals try (
 refine aw 3 ?_
 refine WC.region (Go ?_);refine WL.step (ay Tryz.isAgg53 Tryz.sizeOf53 rfl rfl (by exact At.av bX)) rfl rfl rfl ?_
 refine WL.call (vs:=[_]) rfl Tryz.call30 rfl (BJ f.kind (nE hmy.kind) m4 ((fP.ext aM (fun _ _=>aO)).ext aN (fun q hq e=>by have:=(fP.lt hq);omega)).rd (by omega)) rfl rfl rfl ?_
 rintro v7 h7 ⟨mV,ba⟩
 have Ih:=KI.trans ba
 refine WL.aj (aT (sz:=1) (bytes:=1) rfl Tryz.underlying23 (show Tryz.prog.info? 5=some Tryz.t5 by kernel_rfl) rfl rfl rfl rfl (by decide) rfl rfl (B1.1.ext Ih (fun _ _=>aO)) mV.rd (by intro v hv;obtain ⟨x,_,rfl⟩:=List.mem_map.1 hv;rfl) (by rw [hY];simp only [maxLen];omega) (by rw [hY];omega)) rfl rfl rfl ?_
 rintro v8 h8 ⟨jK,bz,tC⟩
 refine Go ?_
 skip)
 all_goals try (
 refine aw 4 ?_
 refine WC.skip ?_
 skip)
 all_goals (refine Gn ?_;first | refine Br.ab ?_ | refine Gs [(3,_),(8,_),(9,_),(10,_)] ?_)
 all_goals (first | refine Br.ab ?_ | refine WC.region ?_)
 all_goals (refine Go ?_)
 all_goals (
  first
    | (refine Br.ab ?_)
    | (exact ⟨(k + 1, _), ⟨rfl, rfl, rfl, rfl, trivial⟩, (by first
        | exact ⟨by omega,ms,by rw [lW hfk];exact fr.NA hno,B1.1.ext KI (fun _ _=>aO),B1.2.1.trans KI,B1.2.2⟩
        | (refine ⟨by omega,_,(by rw [lW hfk];exact fr.one hmy Jc NB),?_,(B1.2.1.trans Ih).trans' bz (fun q hq e=>by have:=B1.2.2 q e;omega),fun q hq=>?_⟩
           · rw [AD,List.length_append,mr];exact jK
           · rcases tC with e | e
             · exact B1.2.2 q (e▸hq)
             · rw [e] at hq;simp only [Option.some.injEq] at hq;have:=(B1.2.1.trans Ih).size;omega)),(by (try simp only []);omega)⟩))
 try (refine Br.mk (i:=1000) ?_)
 refine Gn ?_;refine Gs [(3,_)] ?_;refine G2 ?_;refine Gt ?_
 rw [List.take_of_length_le (by omega)] at fr
 exact ⟨ms,fr,B1⟩
theorem C5 {h : ah} (a b : aX) (ha : a.ok h) (hb : b.ok h) :
   ag Tryz.prog 190 ⟨[.agg ⟨a.cells⟩, .agg ⟨b.cells⟩]⟩ h fun u h' => u = .bool (decide (a.pl = b.pl)) ∧ Ext No h h' := by
 obtain ⟨n1, v1, l1⟩ := a
 obtain ⟨n2, v2, l2⟩ := b
 obtain ⟨ha, _⟩ := ha
 obtain ⟨hb, _⟩ := hb
 simp only at ha hb
 obtain ⟨A, c, rfl, _⟩ := id ha
 obtain ⟨B, d, rfl, _⟩ := id hb
 dsimp only [aX.cells]
 cases n1
 all_goals cases n2
 all_goals
   refine calls [(0, _), (1, _)] Tryz.func190 rfl Tryz.ntmps190 rfl ⟨rfl, rfl, trivial⟩ ?_
   all_goals (refine WC.sr ?_; refine WL.aj (aG rfl) rfl rfl rfl ?_; rintro _ h1 ⟨b1, rfl, bR, aR, az⟩; refine WL.aj (aG rfl) rfl rfl rfl ?_; rintro _ h2 ⟨b2, rfl, gg, bH, aI⟩; have rv := aI.obj aR aO; have hx := az.trans aI; refine Go ?_; refine G2 ?_; refine Ld ?_; refine Go ?_; refine Ld ?_; first | (refine WL.step (bN.fv (by rfl) (ml Tryz.underlying4 rfl rfl)) rfl rfl rfl ?_) | (refine WL.step (bN.fy (by decide) (ml Tryz.underlying4 rfl rfl)) rfl rfl rfl ?_))
   all_goals (refine Go ?_; refine bK 10 ?_ TT.mk; refine Gg ?_; first | refine WL.pass rfl rfl rfl ?_ | refine Ld ?_)
   all_goals (refine Gg ?_; first | refine WL.pass rfl rfl rfl ?_ | refine Ld ?_)
   all_goals (
    first
      | (refine WL.pass rfl rfl rfl ?_)
      | (refine WL.call (vs := [_, _]) rfl Tryz.call12 rfl (lQ l1 l2 (ha.aq hx) (hb.aq hx)) rfl rfl rfl ?_
         rintro _ hz ⟨rfl, _⟩
         subst hz))
   all_goals (refine Go ?_; refine Gs [(4, _)] ?_; refine Gt ?_; exact ⟨by simp [aX.pl], hx⟩)
theorem sJ {h : ah} {v w : Value} (l m : List aX) (hl : cF h v l) (hm : cF h w m) :
   ag Tryz.prog 189 ⟨[v, w, .func (.func 190) ⟨[]⟩ ⟨[]⟩]⟩ h fun u h' => u = .bool (decide (l.map aX.pl = m.map aX.pl)) ∧ Ext No h h' := by
 obtain ⟨hr, ⟨hlm, A, c, rfl, _⟩, ho⟩ := hl
 obtain ⟨hs, ⟨hmm, B, d, rfl, _⟩, hp⟩ := hm
 unfold reachBytes at hlm hmm
 refine calls [(0, _), (1, _), (2, _)] Tryz.func189 rfl Tryz.ntmps189 rfl ⟨rfl, rfl, rfl, trivial⟩ ?_
 refine G2 ?_; refine G3 ?_; refine Gs [(0, _), (1, _), (2, _), (14, _)] ?_
 refine aH 1 2 (Hb.mk fun hb => ?_) (Hb.mk fun hb => ?_)
 all_goals try (
 refine aw 1 ?_
 refine G2 ?_; refine Gs [(6, _)] ?_; refine Gt ?_
 first
  | exact ⟨by rw [decide_eq_false (fun e => by have := congrArg List.length e; simp only [List.length_map] at this; omega)], .refl _ _⟩
  | exact ⟨by rw [decide_eq_false (gX hy hz hyz)], nR.trans aN⟩
  | exact ⟨by rw [decide_eq_true (by rw [List.take_of_length_le (by omega), List.take_of_length_le (by omega)] at hn; exact hn)], az⟩
 skip)
 all_goals (refine aw 2 ?_)
 refine WC.skip ?_; refine Gn ?_; refine G3 ?_; refine WC.block ?_; refine WC.bD (X := Nat) (fun x => ([(17, In (x : Int))] : Fr)) [(1, _), (2, _), (15, _), (16, _)] (fun k h' => Ext No h h' ∧ k ≤ l.length ∧ l.length = m.length ∧ (l.take k).map aX.pl = (m.take k).map aX.pl) (fun k => l.length - k) (0) ⟨rfl, rfl, rfl, rfl, rfl, trivial⟩ (by exact ⟨.refl _ _, Nat.zero_le _, by omega, by simp⟩) ?_
 rintro k h1 ⟨az, hk, hlen, hn⟩
 refine WC.sub [(17, _), (1, _), (2, _), (15, _), (16, _)] ⟨rfl, rfl, rfl, rfl, rfl, trivial⟩ ?_; refine G2 ?_; refine WC.seq ?_
 refine aH 3 4 (Hb.mk fun hb => ?_) (Hb.mk fun hb => ?_)
 all_goals try (
 refine aw 3 ?_
 refine WC.skip ?_
 skip)
 all_goals try (
 refine aw 4 ?_
 refine WC.exit ?_
 repeat' (with_reducible first | refine aU ?_ | refine aD rfl ?_ | refine aJ ?_ | refine aL ?_ | refine aS ?_)
 refine Br.out (i := 1000) ?_
 skip)
 all_goals (refine Gn ?_; first | refine Br.ab ?_ | refine WC.seq ?_)
 all_goals (first | refine Br.ab ?_ | refine WC.block ?_)
 all_goals (first | refine Br.ab ?_ | refine WC.sr ?_)
 all_goals (
  first
    | (refine Br.ab ?_)
    | (obtain ⟨bL, oL, hA, hbL, hat⟩ := Rd.at_ (hr.aq az) (by omega)
       obtain ⟨bM, oM, hB, hbM, hbt⟩ := Rd.at_ (hs.aq az) (by omega)
       obtain ⟨y, hy⟩ : ∃ y, l[k]? = some y := ⟨_, List.getElem?_eq_getElem (by omega)⟩
       obtain ⟨z, hz⟩ : ∃ y, m[k]? = some y := ⟨_, List.getElem?_eq_getElem (by omega)⟩
       have hyo := ho y (List.mem_of_getElem? hy)
       have hzo := hp z (List.mem_of_getElem? hz)
       have vi : At h1 bL (oL + k * 2) y.cells := At.elem aX.len hat hy
       have DB : At h1 bM (oM + k * 2) z.cells := At.elem aX.len hbt hz
       have EW : ∀ v ∈ y.cells, v.oneCell' = true := by obtain ⟨A1, c1, e1, _⟩ := hyo.1; simp [aX.cells, Value.oneCell', e1]
       have Cb : ∀ v ∈ z.cells, v.oneCell' = true := by obtain ⟨A1, c1, e1, _⟩ := hzo.1; simp [aX.cells, Value.oneCell', e1]))
 all_goals (first | refine Br.ab ?_ | refine WL.step (ak rfl) rfl rfl rfl ?_)
 all_goals (first | refine Br.ab ?_ | (refine WL.step (aE Tryz.underlying40 Tryz.sizeOf85 rfl rfl rfl (by omega) (by first | rfl | assumption)) rfl rfl rfl ?_))
 all_goals (first | refine Br.ab ?_ | (refine WL.step (ay Tryz.isAgg85 Tryz.sizeOf85 rfl rfl (by assumption)) rfl rfl rfl ?_))
 all_goals (
  first
    | (refine Br.ab ?_)
    | (refine WL.aj (an (fun w => Tryz.zeroValue85 w)) rfl rfl rfl ?_
       rintro _ h2 ⟨b2, rfl, gg, bH, aI⟩))
 all_goals (refine Go ?_)
 all_goals (
  first
    | (refine Br.ab ?_)
    | (refine WL.ax (al Tryz.sizeOf85 rfl rfl rfl (by assumption) rfl EW) rfl rfl ?_
       rintro _ h3 ⟨bq, aQ⟩))
 all_goals (first | refine Br.ab ?_ | (have gw : Ext No h1 h3 := aI.trans' aQ (fun q hq e => by omega)))
 all_goals (refine Gn ?_; first | refine Br.ab ?_ | refine Gs [(1, _), (2, _), (7, _), (8, _), (15, _), (16, _), (17, _)] ?_)
 all_goals (first | refine Br.ab ?_ | refine WC.sr ?_)
 all_goals (refine Go ?_; first | refine Br.ab ?_ | (refine WL.step (aE Tryz.underlying40 Tryz.sizeOf85 rfl rfl rfl (by omega) (by first | rfl | assumption)) rfl rfl rfl ?_))
 all_goals (first | refine Br.ab ?_ | (refine WL.step (ay Tryz.isAgg85 Tryz.sizeOf85 rfl rfl (by exact DB.ext gw aO)) rfl rfl rfl ?_))
 all_goals (
  first
    | (refine Br.ab ?_)
    | (refine WL.aj (an (fun w => Tryz.zeroValue85 w)) rfl rfl rfl ?_
       rintro _ h4 ⟨b4, rfl, oG, bC, aW⟩))
 all_goals (
  first
    | (refine Br.ab ?_)
    | (refine WL.ax (al Tryz.sizeOf85 rfl rfl rfl (by assumption) rfl Cb) rfl rfl ?_
       rintro _ h5 ⟨bV, aM⟩))
 all_goals (
  first
    | (refine Br.ab ?_)
    | (have yV : Ext No h3 h5 := aW.trans' aM (fun q hq e => by omega)
       have tU := yV.obj bq aO
       have nR := az.trans (gw.trans yV)))
 all_goals (refine Gn ?_; first | refine Br.ab ?_ | refine Gs [(1, _), (2, _), (8, _), (9, _), (15, _), (16, _), (17, _)] ?_)
 all_goals (first | refine Br.ab ?_ | refine WC.sr ?_)
 all_goals (refine Go ?_; first | refine Br.ab ?_ | (refine WL.step (ay Tryz.isAgg85 Tryz.sizeOf85 rfl rfl (by exact At.av tU)) rfl rfl rfl ?_))
 all_goals (first | refine Br.ab ?_ | (refine WL.step (ay Tryz.isAgg85 Tryz.sizeOf85 rfl rfl (by exact At.av bV)) rfl rfl rfl ?_))
 all_goals (
  first
    | (refine Br.ab ?_)
    | (refine WL.fC (vs := [_, _]) rfl rfl Tryz.call190 rfl (C5 y z (hyo.aq nR) (hzo.aq nR)) rfl rfl rfl ?_
       rintro _ h6 ⟨rfl, aN⟩))
 all_goals (
  first
    | (refine Br.ab ?_)
    | (by_cases hyz : y.pl = z.pl
       all_goals first | rw [decide_eq_true hyz] | rw [decide_eq_false hyz]))
 all_goals (refine Go ?_; first | refine Br.ab ?_ | refine Gs [(1, _), (2, _), (15, _), (16, _), (17, _), (30, _)] ?_)
 all_goals (first | refine Br.ab ?_ | refine aH 5 6 ?_ TT.mk)
 all_goals try (
 refine aw 5 ?_
 refine G2 ?_; refine Gs [(6, _)] ?_; refine Gt ?_
 first
  | exact ⟨by rw [decide_eq_false (fun e => by have := congrArg List.length e; simp only [List.length_map] at this; omega)], .refl _ _⟩
  | exact ⟨by rw [decide_eq_false (gX hy hz hyz)], nR.trans aN⟩
  | exact ⟨by rw [decide_eq_true (by rw [List.take_of_length_le (by omega), List.take_of_length_le (by omega)] at hn; exact hn)], az⟩
 skip)
 all_goals try (
 refine aw 6 ?_
 refine WC.skip ?_
 skip)
 all_goals (refine Gn ?_; first | refine Br.ab ?_ | refine WC.region ?_)
 all_goals (refine Go ?_; first | refine Br.ab ?_ | (exact ⟨k + 1, ⟨rfl, rfl, rfl, rfl, rfl, trivial⟩, (by exact ⟨nR.trans aN, by omega, hlen, map_take hn hy hz hyz⟩), (by omega)⟩))
 try (refine Br.mk (i := 1000) ?_)
 refine Gn ?_; refine Gs [] ?_; refine G2 ?_; refine Gt ?_
 first
  | exact ⟨by rw [decide_eq_false (fun e => by have := congrArg List.length e; simp only [List.length_map] at this; omega)], .refl _ _⟩
  | exact ⟨by rw [decide_eq_false (gX hy hz hyz)], nR.trans aN⟩
  | exact ⟨by rw [decide_eq_true (by rw [List.take_of_length_le (by omega), List.take_of_length_le (by omega)] at hn; exact hn)], az⟩
theorem Ii {h h0 : ah} (c : aX) (hk : c.ok h0) (hc : c.okB) : ag Tryz.prog 184 ⟨[.agg ⟨c.cells⟩]⟩ h fun u h' => u = .bool false ∧ Ext No h h' := by
 obtain ⟨nl, v, bs⟩ := c
 obtain ⟨h1, h2⟩ := hc
 obtain ⟨A, cc, e, _⟩ := hk.1
 dsimp only at e h1 h2
 subst e
 dsimp only [aX.cells]
 cases nl
 all_goals
   try have h1 := h1 rfl
   refine calls [(0, _)] Tryz.func184 rfl Tryz.ntmps184 rfl ⟨rfl, trivial⟩ ?_
   all_goals (refine WC.sr ?_; refine WL.aj (aG rfl) rfl rfl rfl ?_; rintro _ h1 ⟨b1, rfl, bR, aR, az⟩; refine Go ?_; refine G2 ?_; refine Ld ?_; refine Go ?_; refine bK 5 ?_ TT.mk; refine Gg ?_; first | refine WL.pass rfl rfl rfl ?_ | refine Ld ?_)
   all_goals (refine Gg ?_; refine Go ?_; refine bK 11 ?_ TT.mk; refine Gg ?_; refine Ld ?_; refine Gg ?_; refine Go ?_; refine Gs [(2, _)] ?_; refine Gt ?_; exact ⟨rfl, az⟩)
theorem AE {h : ah} {v : Value} (R : List aX) (hR : cF h v R) (ok : ∀ c ∈ R, c.okB) (hm : R.length ≤ 65535) : ag Tryz.prog 134 ⟨[v]⟩ h fun u h' => u = .bool true ∧ Ext No h h' := by
 obtain ⟨hr, ⟨_, A, c, rfl, _⟩, ho⟩ := hR
 have kh := vx R (fun _ => false) Tryz.call184 (fs := []) (us := []) hr (by unfold maxLen; omega) (fun x hx h' hx' => Ii x (ho x hx) (ok x hx))
 rw [show (R.any fun _ => false) = false by simp] at kh
 refine calls [(0, _)] Tryz.func134 rfl Tryz.ntmps134 rfl ⟨rfl, trivial⟩ ?_
 refine G2 ?_; refine G2 ?_; refine G2 ?_
 refine bK 7 ?_ TT.mk
 refine Gg ?_; refine WL.call (vs := [_, _]) rfl Tryz.call46 rfl (kh) rfl rfl rfl ?_
 rintro _ h2 ⟨rfl, aI⟩
 refine Gg ?_; refine Go ?_; refine Gs [(2, _)] ?_; refine Gt ?_
 exact ⟨rfl, aI⟩
theorem nF {f : Fm} (k : f.may) : ((f.kind = 67 ∨ f.kind = 68) ∧ (f.what = 83 ∨ f.what = 80)) ∨ (f.kind ≠ 67 ∧ f.kind ≠ 68 ∧ f.what = 0) := by
 have hw := k.what
 unfold Wh at hw
 rcases hw with ⟨h1, h2⟩ | h
 · refine .inr ⟨fun e => h1 (.inl e), fun e => h1 (.inr e), ?_⟩
   have e := congrArg (fun x => x.2.1) k.own
   simp only [Fm.pl] at e
   rw [e]
   unfold dA
   repeat' split
   all_goals first | rfl | (exfalso; omega)
 · exact .inl h
theorem C6 {h : ah} (f : Fm) (hf : f.ok h) (k : f.may) : ag Tryz.prog 135 ⟨[.agg ⟨f.cells⟩]⟩ h fun u h' => u = .bool true ∧ Ext No h h' := by
 have hw := nF k
 clear k
 obtain ⟨⟨e1, _⟩, ⟨e2, _⟩, ⟨e3, _⟩, e4, _⟩ := hf
 obtain ⟨fk, w, n, p, t, vo, o, vf, fs, vs, rs, vp, ps, mx⟩ := f
 dsimp only at e1 e2 e3 e4 hw
 obtain ⟨_, _, rfl, _⟩ := e1
 obtain ⟨_, _, rfl, _⟩ := e2
 obtain ⟨_, _, rfl, _⟩ := e3
 obtain ⟨_, _, rfl, _⟩ := e4
 dsimp only [Fm.cells]
 rcases hw with ⟨hw | hw, hq | hq⟩ | ⟨hw, LU, hq⟩
 all_goals
   refine calls [(0, _)] Tryz.func135 rfl Tryz.ntmps135 rfl ⟨rfl, trivial⟩ ?_
   all_goals (refine WC.sr ?_; refine WL.aj (aG rfl) rfl rfl rfl ?_; rintro _ h1 ⟨b1, rfl, bR, aR, az⟩; refine Go ?_; refine G3 ?_; refine Ld ?_; refine Go ?_; refine bK 6 ?_ TT.mk; refine Gg ?_; first | refine WL.pass rfl rfl rfl ?_ | refine Ld ?_)
   all_goals (refine Gg ?_; refine Go ?_; refine Gs [(1, _), (10, _)] ?_; refine aH 1 2 ?_ TT.mk)
   all_goals try (
   refine aw 1 ?_
   all_goals (refine G2 ?_; refine Ld ?_; refine Go ?_; refine bK 14 ?_ TT.mk; refine Gg ?_; first | refine WL.pass rfl rfl rfl ?_ | refine Ld ?_)
   all_goals (refine Gg ?_; refine Go ?_; refine Gs [(2, _)] ?_; refine Gt ?_; first | exact ⟨rfl, az⟩ | (exfalso; omega))
   skip)
   all_goals (refine aw 2 ?_; refine WC.skip ?_; refine Gn ?_; refine G2 ?_; refine Ld ?_; refine Go ?_; refine Gs [(2, _)] ?_; refine Gt ?_; first | exact ⟨rfl, az⟩ | (exfalso; omega))
theorem Ij {h : ah} (f : Fm) (hf : f.ok h) (hw : ((f.kind = 67 ∨ f.kind = 68) ∧ (f.what = 83 ∨ f.what = 80)) ∨ (f.kind ≠ 67 ∧ f.kind ≠ 68 ∧ f.what = 0)) : ag Tryz.prog 138 ⟨[.agg ⟨f.cells⟩]⟩ h fun u h' => u = .agg ⟨(dA f).cells⟩ ∧ Ext No h h' := by
 obtain ⟨⟨e1, _⟩, ⟨e2, _⟩, ⟨e3, _⟩, e4, _⟩ := hf
 obtain ⟨fk, w, n, p, t, vo, o, vf, fs, vs, rs, vp, ps, mx⟩ := f
 dsimp only at e1 e2 e3 e4 hw
 obtain ⟨_, _, rfl, _⟩ := e1
 obtain ⟨_, _, rfl, _⟩ := e2
 obtain ⟨_, _, rfl, _⟩ := e3
 obtain ⟨_, _, rfl, _⟩ := e4
 dsimp only [Fm.cells]
 refine calls [(0, _)] Tryz.func138 rfl Tryz.ntmps138 rfl ⟨rfl, trivial⟩ ?_
 refine WC.sr ?_; refine WL.aj (aG rfl) rfl rfl rfl ?_
 rintro _ h1 ⟨b1, rfl, bR, aR, az⟩
 refine WL.aj (an (fun w => Tryz.zeroValue42 w)) rfl rfl rfl ?_
 rintro _ h2 ⟨b2, rfl, gg, bH, aI⟩
 have rC := aI.obj aR aO
 refine Gn ?_; refine G2 ?_; refine Ld ?_; refine WL.step (aF (vs := [_]) (cs := [_, _, _, _, _, _, _, _, _, _]) (fun | [a0] => [a0, (.int .u8 0), (St []), (St []), (St []), (.slice none 0 0), (.slice none 0 0), (.slice none 0 0), (.slice none 0 0), (.int .i64 0)] | _ => []) rfl rfl (by kernel_rfl)) rfl rfl rfl ?_
 refine WL.aj (an (fun w => Tryz.zeroValue42 w)) rfl rfl rfl ?_
 rintro _ h3 ⟨b3, rfl, gl, bq, aQ⟩
 have yl := aQ.obj rC aO
 have ym := aQ.obj bH aO
 have gr : ¬ b1 = b3 := by have := ai rC; omega
 have kR : ¬ b2 = b3 := by have := ai bH; omega
 refine WL.ax (al Tryz.sizeOf42 rfl rfl rfl (by assumption) rfl (by simp [Value.oneCell'])) rfl rfl ?_
 rintro _ h4 ⟨bC, aW⟩
 have ew := aW.obj yl gr
 have eP := aW.obj ym kR
 have oH : Ext No h h4 := ((az.trans aI).trans aQ).trans' aW (fun q hq e => by have := az.size; have := aI.size; omega)
 refine Gn ?_; refine Gs [(1, _), (2, _), (3, _)] ?_; refine G3 ?_; refine Ld ?_; refine Gn ?_; refine WC.block ?_; refine G2 ?_
 refine aH 1 2 (Hb.mk fun hb => ?_) (Hb.mk fun hb => ?_)
 all_goals try (
 refine aw 1 ?_
 refine WC.bW (fun h' => Ext (fun q => q = b3) h4 h') 11 12 rfl dm ?_
 refine WH.tk 0 rfl (fun hq hC => ad rfl Tryz.underlying42 rfl Tryz.sizeOf9) rfl rfl rfl ?_ (hC := (by first | exact Ext.refl _ _ | assumption | exact aM.trans aN | exact (aM.trans aN).trans ba))
 refine WH.tk 1 rfl (fun hq hC => aA Tryz.isAgg9 rfl (by first | exact hC.cell (by first | exact aa ew rfl | assumption) gr)) rfl rfl rfl ?_ (hC := (by first | exact Ext.refl _ _ | assumption | exact aM.trans aN | exact (aM.trans aN).trans ba))
 refine WH.tk 2 rfl (fun hq hC => ad rfl Tryz.underlying42 rfl Tryz.sizeOf9) rfl rfl rfl ?_ (hC := (by first | exact Ext.refl _ _ | assumption | exact aM.trans aN | exact (aM.trans aN).trans ba))
 refine WH.tk 3 rfl (fun hq hC => aA Tryz.isAgg9 rfl (by first | exact hC.cell (by first | exact aa ew rfl | assumption) gr)) rfl rfl rfl ?_ (hC := (by first | exact Ext.refl _ _ | assumption | exact aM.trans aN | exact (aM.trans aN).trans ba))
 refine WH.tk 4 rfl (fun hq hC => ad rfl Tryz.underlying42 rfl Tryz.sizeOf39) rfl rfl rfl ?_ (hC := (by first | exact Ext.refl _ _ | assumption | exact aM.trans aN | exact (aM.trans aN).trans ba))
 refine WH.tk 5 rfl (fun hq hC => aA Tryz.isAgg39 rfl (by first | exact hC.cell (by first | exact aa ew rfl | assumption) gr)) rfl rfl rfl ?_ (hC := (by first | exact Ext.refl _ _ | assumption | exact aM.trans aN | exact (aM.trans aN).trans ba))
 refine WH.tk 6 rfl (fun hq hC => ad rfl Tryz.underlying42 rfl Tryz.sizeOf9) rfl rfl rfl ?_ (hC := (by first | exact Ext.refl _ _ | assumption | exact aM.trans aN | exact (aM.trans aN).trans ba))
 refine WH.one 7 (by kernel_rfl) ?_
 refine aC.cO rfl (aB Tryz.sizeOf9 rfl rfl (by assumption) (Nat.le_of_ble_eq_true rfl) rfl rfl) rfl rfl ?_ (fun _ => by kernel_rfl)
 rintro _ h5 ⟨bV, aM⟩
 refine ⟨fun _ => aM, ?_⟩
 refine WH.tk 8 rfl (fun hq hC => ad rfl Tryz.underlying42 rfl Tryz.sizeOf9) rfl rfl rfl ?_ (hC := (by first | exact Ext.refl _ _ | assumption | exact aM.trans aN | exact (aM.trans aN).trans ba))
 refine WH.one 9 (by kernel_rfl) ?_
 refine aC.cO rfl (aB Tryz.sizeOf9 rfl rfl (by assumption) (Nat.le_of_ble_eq_true rfl) rfl rfl) rfl rfl ?_ (fun _ => by kernel_rfl)
 rintro _ h6 ⟨bX, aN⟩
 refine ⟨fun _ => aM.trans aN, ?_⟩
 refine WH.tk 10 rfl (fun hq hC => ad rfl Tryz.underlying42 rfl Tryz.sizeOf39) rfl rfl rfl ?_ (hC := (by first | exact Ext.refl _ _ | assumption | exact aM.trans aN | exact (aM.trans aN).trans ba))
 refine WH.one 11 (by kernel_rfl) ?_
 refine aC.cO rfl (aB Tryz.sizeOf39 rfl rfl (by assumption) (Nat.le_of_ble_eq_true rfl) rfl rfl) rfl rfl ?_ (fun _ => by kernel_rfl)
 rintro _ h7 ⟨ca, ba⟩
 refine ⟨fun _ => (aM.trans aN).trans ba, ?_⟩
 have hE := (aM.trans aN).trans ba
 have fi := hE.obj eP kR
 have hbL := ca
 refine WH.done (by kernel_rfl) ?_
 skip)
 all_goals try (
 refine aw 2 ?_
 refine G2 ?_; refine Gs [(1, _), (2, _), (3, _), (8, _), (20, _)] ?_
 refine aH 3 4 (Hb.mk fun hb => ?_) (Hb.mk fun hb => ?_)
 all_goals try (
 refine aw 3 ?_
 refine WC.seq ?_; refine WC.bW (fun h' => Ext (fun q => q = b3) h4 h') 7 8 rfl dm ?_
 refine WH.tk 0 rfl (fun hq hC => ad rfl Tryz.underlying42 rfl Tryz.sizeOf9) rfl rfl rfl ?_ (hC := (by first | exact Ext.refl _ _ | assumption | exact aM.trans aN))
 refine WH.tk 1 rfl (fun hq hC => aA Tryz.isAgg9 rfl (by first | exact hC.cell (by first | exact aa ew rfl | assumption) gr)) rfl rfl rfl ?_ (hC := (by first | exact Ext.refl _ _ | assumption | exact aM.trans aN))
 refine WH.tk 2 rfl (fun hq hC => ad rfl Tryz.underlying42 rfl Tryz.sizeOf9) rfl rfl rfl ?_ (hC := (by first | exact Ext.refl _ _ | assumption | exact aM.trans aN))
 refine WH.tk 3 rfl (fun hq hC => aA Tryz.isAgg9 rfl (by first | exact hC.cell (by first | exact aa ew rfl | assumption) gr)) rfl rfl rfl ?_ (hC := (by first | exact Ext.refl _ _ | assumption | exact aM.trans aN))
 refine WH.tk 4 rfl (fun hq hC => ad rfl Tryz.underlying42 rfl Tryz.sizeOf9) rfl rfl rfl ?_ (hC := (by first | exact Ext.refl _ _ | assumption | exact aM.trans aN))
 refine WH.one 5 (by kernel_rfl) ?_
 refine aC.cO rfl (aB Tryz.sizeOf9 rfl rfl (by assumption) (Nat.le_of_ble_eq_true rfl) rfl rfl) rfl rfl ?_ (fun _ => by kernel_rfl)
 rintro _ h5 ⟨bV, aM⟩
 refine ⟨fun _ => aM, ?_⟩
 refine WH.tk 6 rfl (fun hq hC => ad rfl Tryz.underlying42 rfl Tryz.sizeOf9) rfl rfl rfl ?_ (hC := (by first | exact Ext.refl _ _ | assumption | exact aM.trans aN))
 refine WH.one 7 (by kernel_rfl) ?_
 refine aC.cO rfl (aB Tryz.sizeOf9 rfl rfl (by assumption) (Nat.le_of_ble_eq_true rfl) rfl rfl) rfl rfl ?_ (fun _ => by kernel_rfl)
 rintro _ h6 ⟨bX, aN⟩
 refine ⟨fun _ => aM.trans aN, ?_⟩
 have LV := aM.trans aN
 have F8 := LV.obj ew gr
 refine WH.done (by kernel_rfl) ?_
 refine Gn ?_; refine Gs [(1, _), (2, _), (3, _)] ?_; refine WC.bW (fun h' => Ext (fun q => q = b3) h6 h') 11 12 rfl dm ?_
 refine WH.tk 0 rfl (fun hq hC => ad rfl Tryz.underlying42 rfl Tryz.sizeOf39) rfl rfl rfl ?_ (hC := (by first | exact Ext.refl _ _ | assumption | exact ba.trans bz | exact (ba.trans bz).trans bZ))
 refine WH.tk 1 rfl (fun hq hC => aA Tryz.isAgg39 rfl (by first | exact hC.cell (by first | exact aa F8 rfl | assumption) gr)) rfl rfl rfl ?_ (hC := (by first | exact Ext.refl _ _ | assumption | exact ba.trans bz | exact (ba.trans bz).trans bZ))
 refine WH.tk 2 rfl (fun hq hC => ad rfl Tryz.underlying42 rfl Tryz.sizeOf40) rfl rfl rfl ?_ (hC := (by first | exact Ext.refl _ _ | assumption | exact ba.trans bz | exact (ba.trans bz).trans bZ))
 refine WH.tk 3 rfl (fun hq hC => aA Tryz.isAgg40 rfl (by first | exact hC.cell (by first | exact aa F8 rfl | assumption) gr)) rfl rfl rfl ?_ (hC := (by first | exact Ext.refl _ _ | assumption | exact ba.trans bz | exact (ba.trans bz).trans bZ))
 refine WH.tk 4 rfl (fun hq hC => ad rfl Tryz.underlying42 rfl Tryz.sizeOf39) rfl rfl rfl ?_ (hC := (by first | exact Ext.refl _ _ | assumption | exact ba.trans bz | exact (ba.trans bz).trans bZ))
 refine WH.tk 5 rfl (fun hq hC => aA Tryz.isAgg39 rfl (by first | exact hC.cell (by first | exact aa F8 rfl | assumption) gr)) rfl rfl rfl ?_ (hC := (by first | exact Ext.refl _ _ | assumption | exact ba.trans bz | exact (ba.trans bz).trans bZ))
 refine WH.tk 6 rfl (fun hq hC => ad rfl Tryz.underlying42 rfl Tryz.sizeOf39) rfl rfl rfl ?_ (hC := (by first | exact Ext.refl _ _ | assumption | exact ba.trans bz | exact (ba.trans bz).trans bZ))
 refine WH.one 7 (by kernel_rfl) ?_
 refine aC.cO rfl (aB Tryz.sizeOf39 rfl rfl (by assumption) (Nat.le_of_ble_eq_true rfl) rfl rfl) rfl rfl ?_ (fun _ => by kernel_rfl)
 rintro _ h7 ⟨ca, ba⟩
 refine ⟨fun _ => ba, ?_⟩
 refine WH.tk 8 rfl (fun hq hC => ad rfl Tryz.underlying42 rfl Tryz.sizeOf40) rfl rfl rfl ?_ (hC := (by first | exact Ext.refl _ _ | assumption | exact ba.trans bz | exact (ba.trans bz).trans bZ))
 refine WH.one 9 (by kernel_rfl) ?_
 refine aC.cO rfl (aB Tryz.sizeOf40 rfl rfl (by assumption) (Nat.le_of_ble_eq_true rfl) rfl rfl) rfl rfl ?_ (fun _ => by kernel_rfl)
 rintro _ h8 ⟨bE, bz⟩
 refine ⟨fun _ => ba.trans bz, ?_⟩
 refine WH.tk 10 rfl (fun hq hC => ad rfl Tryz.underlying42 rfl Tryz.sizeOf39) rfl rfl rfl ?_ (hC := (by first | exact Ext.refl _ _ | assumption | exact ba.trans bz | exact (ba.trans bz).trans bZ))
 refine WH.one 11 (by kernel_rfl) ?_
 refine aC.cO rfl (aB Tryz.sizeOf39 rfl rfl (by assumption) (Nat.le_of_ble_eq_true rfl) rfl rfl) rfl rfl ?_ (fun _ => by kernel_rfl)
 rintro _ h9 ⟨bY, bZ⟩
 refine ⟨fun _ => (ba.trans bz).trans bZ, ?_⟩
 have hE := LV.trans ((ba.trans bz).trans bZ)
 have fi := hE.obj eP kR
 have hbL := bY
 refine WH.done (by kernel_rfl) ?_
 skip)
 all_goals try (
 refine aw 4 ?_
 refine G3 ?_
 refine aH 5 6 (Hb.mk fun hb => ?_) (Hb.mk fun hb => ?_)
 all_goals try (
 refine aw 5 ?_
 refine WC.skip ?_
 skip)
 all_goals try (
 refine aw 6 ?_
 refine WC.region (Go ?_)
 skip)
 all_goals (refine Gn ?_; refine aH 7 8 (Hb.mk fun hb => ?_) (Hb.mk fun hb => ?_))
 all_goals try (
 refine aw 7 ?_
 all_goals (refine G2 ?_; refine WL.ld rfl (by first | exact aa ew rfl | assumption) rfl rfl rfl (Go ?_); refine WL.ax (aB Tryz.sizeOf5 rfl rfl (by assumption) (Nat.le_of_ble_eq_true rfl) rfl rfl) rfl rfl ?_; rintro _ h5 ⟨bV, aM⟩; have uN := aM.obj ew gr; refine Gn ?_; refine Gs [(1, _), (2, _), (3, _)] ?_; refine G2 ?_; refine WL.ld rfl (by first | exact aa uN rfl | assumption) rfl rfl rfl ?_; refine Gn ?_; refine WC.block ?_; refine G2 ?_; refine aH 9 10 (Hb.mk fun hb => ?_) (Hb.mk fun hb => ?_))
 all_goals try (
 refine aw 9 ?_
 all_goals (refine WC.region (Go ?_); refine WL.ld rfl (by first | exact aa uN rfl | assumption) rfl rfl rfl (Go ?_); refine WL.ax (aB Tryz.sizeOf9 rfl rfl (by assumption) (Nat.le_of_ble_eq_true rfl) rfl rfl) rfl rfl ?_; rintro _ h6 ⟨bX, aN⟩; have hE := aM.trans aN; have fi := hE.obj eP kR; have hbL := bX; refine Gn ?_)
 skip)
 all_goals try (
 refine aw 10 ?_
 all_goals (refine G2 ?_; refine Gs [(1, _), (2, _), (3, _), (50, _)] ?_; refine aH 11 12 (Hb.mk fun hb => ?_) (Hb.mk fun hb => ?_))
 all_goals try (
 refine aw 11 ?_
 all_goals (refine WC.region (Go ?_); refine WL.ld rfl (by first | exact aa uN rfl | assumption) rfl rfl rfl (Go ?_); refine WL.ax (aB Tryz.sizeOf9 rfl rfl (by assumption) (Nat.le_of_ble_eq_true rfl) rfl rfl) rfl rfl ?_; rintro _ h6 ⟨bX, aN⟩; have hE := aM.trans aN; have fi := hE.obj eP kR; have hbL := bX; refine Gn ?_)
 skip)
 all_goals try (
 refine aw 12 ?_
 all_goals (refine WC.skip ?_)
 skip)
 skip)
 skip)
 all_goals try (
 refine aw 8 ?_
 all_goals (refine G2 ?_; refine Gs [(1, _), (2, _), (3, _), (8, _), (55, _)] ?_; first | refine aH 13 14 ?_ TT.mk | (refine aH 13 14 (Hb.mk fun hb => ?_) (Hb.mk fun hb => ?_)))
 all_goals try (
 refine aw 13 ?_
 all_goals (refine WC.bW (fun h' => Ext (fun q => q = b3) h4 h') 7 8 rfl dm ?_; refine WH.tk 0 rfl (fun hq hC => ad rfl Tryz.underlying42 rfl Tryz.sizeOf9) rfl rfl rfl ?_ (hC := (by first | exact Ext.refl _ _ | assumption | exact aM.trans aN)); refine WH.tk 1 rfl (fun hq hC => aA Tryz.isAgg9 rfl (by first | exact hC.cell (by first | exact aa ew rfl | assumption) gr)) rfl rfl rfl ?_ (hC := (by first | exact Ext.refl _ _ | assumption | exact aM.trans aN)); refine WH.tk 2 rfl (fun hq hC => ad rfl Tryz.underlying42 rfl Tryz.sizeOf3) rfl rfl rfl ?_ (hC := (by first | exact Ext.refl _ _ | assumption | exact aM.trans aN)); refine WH.tk 3 rfl (fun hq hC => aA Tryz.isAgg3 rfl (by first | exact hC.cell (by first | exact aa ew rfl | assumption) gr)) rfl rfl rfl ?_ (hC := (by first | exact Ext.refl _ _ | assumption | exact aM.trans aN)); refine WH.tk 4 rfl (fun hq hC => ad rfl Tryz.underlying42 rfl Tryz.sizeOf9) rfl rfl rfl ?_ (hC := (by first | exact Ext.refl _ _ | assumption | exact aM.trans aN)); refine WH.one 5 (by kernel_rfl) ?_; refine aC.cO rfl (aB Tryz.sizeOf9 rfl rfl (by assumption) (Nat.le_of_ble_eq_true rfl) rfl rfl) rfl rfl ?_ (fun _ => by kernel_rfl); rintro _ h5 ⟨bV, aM⟩; refine ⟨fun _ => aM, ?_⟩; refine WH.tk 6 rfl (fun hq hC => ad rfl Tryz.underlying42 rfl Tryz.sizeOf3) rfl rfl rfl ?_ (hC := (by first | exact Ext.refl _ _ | assumption | exact aM.trans aN)); refine WH.one 7 (by kernel_rfl) ?_; refine aC.cO rfl (aB Tryz.sizeOf3 rfl rfl (by assumption) (Nat.le_of_ble_eq_true rfl) rfl rfl) rfl rfl ?_ (fun _ => by kernel_rfl); rintro _ h6 ⟨bX, aN⟩; refine ⟨fun _ => aM.trans aN, ?_⟩; have hE := aM.trans aN; have fi := hE.obj eP kR; have hbL := bX; refine WH.done (by kernel_rfl) ?_)
 skip)
 all_goals try (
 refine aw 14 ?_
 refine G2 ?_
 refine aH 15 16 (Hb.mk fun hb => ?_) (Hb.mk fun hb => ?_)
 all_goals try (
 refine aw 15 ?_
 refine WC.region (Go ?_); refine Ld ?_; refine Go ?_; refine WL.ax (aB Tryz.sizeOf9 rfl rfl (by assumption) (Nat.le_of_ble_eq_true rfl) rfl rfl) rfl rfl ?_
 rintro _ h5 ⟨bV, hE⟩
 have fi := hE.obj eP kR
 have hbL := bV
 refine Gn ?_
 skip)
 all_goals try (
 refine aw 16 ?_
 refine WC.skip ?_
 skip)
 skip)
 skip)
 skip)
 skip)
 all_goals (refine Gn ?_; refine WC.sr ?_; first | have := hE | (have hwx := hw; exfalso; clear hw; omega) | (exfalso; rcases hw with ⟨h1, h2 | h2⟩ | ⟨h1, h2, h3⟩; · exact absurd h2 (by assumption); · exact absurd h2 (by assumption); · (first | exact absurd (by assumption) h1 | exact absurd (by assumption) h2)) | skip)
 all_goals (refine WL.step (ay Tryz.isAgg42 Tryz.sizeOf42 rfl rfl (by exact (by first | exact At.av hbL | exact At.av bC))) rfl rfl rfl ?_; refine WL.ax (al Tryz.sizeOf42 rfl rfl rfl (by first | exact fi | exact eP) rfl (by simp [Value.oneCell'])) rfl rfl ?_; rintro _ h9 ⟨bY, bZ⟩; refine Gn ?_; refine WC.ret ?_; repeat' (with_reducible first | refine aZ ?_ | refine aV ?_))
 all_goals (refine cm _ ⟨⟨_, rfl, bB Tryz.isAgg42 Tryz.sizeOf42 (by assumption) rfl⟩, trivial⟩ ?_)
 all_goals (
  have fT := az.size
  have pz := aI.size
  refine ⟨?_, by first | exact (oH.trans' hE (fun q hq e => by omega)).trans' bZ (fun q hq e => by omega) | exact oH.trans' bZ (fun q hq e => by omega)⟩
  first
   | (exfalso; clear hw; omega)
   | (simp only [dA, if_pos, *]; rfl)
   | (simp [dA, zF, Fm.cells, *]; done))
theorem C7 {h : ah} (a b : Fm) (ha : a.ok h) (hb : b.ok h) (e : a.pl = b.pl) :
   ag Tryz.prog 137 ⟨[.agg ⟨a.cells⟩, .agg ⟨b.cells⟩]⟩ h fun u h' => u = .bool true ∧ Ext No h h' := by
 obtain ⟨k1, w1, n1, p1, t1, Lm, o1, Ln, f1, LP, r1, Nw, c1, m1⟩ := a
 obtain ⟨k2, w2, n2, p2, t2, Lo, o2, Lp, f2, Nx, r2, GG, c2, m2⟩ := b
 simp only [Fm.pl, Prod.mk.injEq] at e
 obtain ⟨rfl, rfl, rfl, rfl, rfl, rfl, rfl, rfl, ec, rfl⟩ := e
 obtain ⟨⟨ao, lo⟩, ⟨af, lf⟩, ⟨as', ls⟩, ap⟩ := ha
 obtain ⟨⟨bo, _⟩, ⟨bf, _⟩, ⟨bs', _⟩, bp⟩ := hb
 simp only at ao af as' ap bo bf bs' bp lo lf ls
 obtain ⟨Ao, co, rfl, _⟩ := id ao
 obtain ⟨Bo, do_, rfl, _⟩ := id bo
 obtain ⟨Af, cf, rfl, _⟩ := id af
 obtain ⟨Bf, df, rfl, _⟩ := id bf
 obtain ⟨As, cs, rfl, _⟩ := id as'
 obtain ⟨Bs, ds, rfl, _⟩ := id bs'
 have kc := fun {g : ah} (x : Ext No h g) => sJ c1 c2 (ap.aq x) (bp.aq x)
 rw [decide_eq_true ec] at kc
 obtain ⟨_, ⟨_, Ap, cp, rfl, _⟩, _⟩ := id ap
 obtain ⟨_, ⟨_, Bp, dp, rfl, _⟩, _⟩ := id bp
 dsimp only [Fm.cells]
 refine calls [(0, _), (1, _)] Tryz.func137 rfl Tryz.ntmps137 rfl ⟨rfl, rfl, trivial⟩ ?_
 refine WC.sr ?_; refine WL.aj (aG rfl) rfl rfl rfl ?_
 rintro _ g1 ⟨b1, rfl, bR, aR, az⟩
 refine WL.aj (aG rfl) rfl rfl rfl ?_
 rintro _ g2 ⟨b2, rfl, gg, bH, aI⟩
 have rv := aI.obj aR aO
 have hx := az.trans aI
 refine Go ?_; refine G2 ?_; refine Ld ?_; refine Go ?_; refine Ld ?_; refine Go ?_; refine Ld ?_; refine WL.step (aF (vs := [_, _, _]) (cs := [_, _, _]) (fun | [a0, a1, a2] => [a0, a1, a2] | _ => []) rfl rfl (by kernel_rfl)) rfl rfl rfl (Go ?_)
 refine Ld ?_; refine Go ?_; refine Ld ?_; refine Go ?_; refine Ld ?_; refine WL.step (aF (vs := [_, _, _]) (cs := [_, _, _]) (fun | [a0, a1, a2] => [a0, a1, a2] | _ => []) rfl rfl (by kernel_rfl)) rfl rfl rfl ?_
 refine WL.step (bN.fv rfl (pN (us := [n1, p1, t1]) (vs := [n1, p1, t1]) Tryz.underlying251 (show Tryz.prog.info? 9 = some Tryz.t9 by kernel_rfl) Tryz.underlying9 (by kernel_rfl) (by kernel_rfl) (by kernel_rfl) rfl rfl rfl rfl)) rfl rfl rfl (Go ?_)
 refine Gs [(2, _), (3, _), (5, _)] ?_; refine G2 ?_; refine Ld ?_; refine Go ?_; refine Ld ?_; refine WL.call (vs := [_, _]) rfl Tryz.call188 rfl ((iT o1 o1 (ao.aq hx) (bo.aq hx) lo).as (congrArg Value.bool (decide_eq_true rfl))) rfl rfl rfl ?_
 rintro _ hz ⟨rfl, _⟩
 subst hz
 refine Go ?_
 refine bK 27 ?_ TT.mk
 refine Gg ?_; refine Ld ?_; refine Gg ?_; refine Ld ?_; refine WL.call (vs := [_, _]) rfl Tryz.call188 rfl ((iT f1 f1 (af.aq hx) (bf.aq hx) lf).as (congrArg Value.bool (decide_eq_true rfl))) rfl rfl rfl ?_
 rintro _ hz ⟨rfl, _⟩
 subst hz
 refine Go ?_
 refine bK 34 ?_ TT.mk
 refine Gg ?_; refine Ld ?_; refine Gg ?_; refine Ld ?_; refine WL.call (vs := [_, _]) rfl Tryz.call188 rfl ((iT r1 r1 (as'.aq hx) (bs'.aq hx) ls).as (congrArg Value.bool (decide_eq_true rfl))) rfl rfl rfl ?_
 rintro _ hz ⟨rfl, _⟩
 subst hz
 refine Go ?_; refine Gs [(2, _), (3, _), (5, _), (6, _)] ?_; refine G2 ?_; refine Ld ?_; refine Go ?_; refine Ld ?_; refine Go ?_
 refine bK 46 ?_ TT.mk
 refine Gg ?_; refine Ld ?_; refine Gg ?_; refine Ld ?_; refine Gg ?_; refine Go ?_
 refine bK 53 ?_ TT.mk
 refine Gg ?_; refine Ld ?_; refine Gg ?_; refine Ld ?_; refine Gg ?_; refine Go ?_
 refine bK 60 ?_ TT.mk
 refine Gg ?_; refine Go ?_
 refine bK 63 ?_ TT.mk
 refine Gg ?_; refine Go ?_
 refine bK 66 ?_ TT.mk
 refine Gg ?_; refine Ld ?_; refine Gg ?_; refine Ld ?_; refine WL.call (vs := [_, _, _]) rfl Tryz.call189 rfl (kc hx) rfl rfl rfl ?_
 rintro _ g3 ⟨rfl, aQ⟩
 refine Go ?_; refine Gs [(4, _)] ?_; refine Gt ?_
 exact ⟨rfl, hx.trans aQ⟩
theorem nG {l:List Int} {lo hi:Int} (hm:l.length≤65535) (h:∀ n∈l,lo≤n∧n≤hi):mu l lo hi=true:=by
 unfold mu
 rw [decide_eq_true hm,show (l.any fun n=>decide (n < lo) || decide (hi < n))=false from List.any_eq_false.2 fun n hn=>by have:=h n hn;simp;omega]
 rfl
theorem sK {k:Int} (h:K6 k) {g:ah}:ag Tryz.prog 93 ⟨[.int .u8 k]⟩ g fun u h'=>u=In 1∧Ext No g h':=by
 obtain ⟨k8,NC,hkn⟩:∃ k8:UInt8,Value.int .u8 k=By k8∧iD k8=1:=by
   rcases h with rfl | rfl | rfl | rfl | rfl | rfl | rfl | rfl | rfl
   · exact ⟨66,rfl,by decide⟩
   · exact ⟨67,rfl,by decide⟩
   · exact ⟨68,rfl,by decide⟩
   · exact ⟨69,rfl,by decide⟩
   · exact ⟨72,rfl,by decide⟩
   · exact ⟨80,rfl,by decide⟩
   · exact ⟨81,rfl,by decide⟩
   · exact ⟨83,rfl,by decide⟩
   · exact ⟨88,rfl,by decide⟩
 rw [NC,← hkn]
 exact ry k8
theorem AF {h:ah} (f:Fm) (hf:f.ok h) (w:f.vU) (k:f.may):ag Tryz.prog 97 ⟨[.agg ⟨f.cells⟩]⟩ h fun u h'=>u=In 0∧Ext No h h':=by
 have hkno:=fun {g:ah}=>sK (g:=g) k.kind
 have hof:=fun {g:ah} (x:Ext No h g)=>Ij f (hf.aq x) (nF k)
 have hsa:=fun {g:ah} (x:Ext No h g)=>C7 f (dA f) (hf.aq x) (sH (hf.aq x)) k.own
 have hwh:=fun {g:ah} (x:Ext No h g)=>C6 f (hf.aq x) k
 have ht:[f.name,f.portal,f.text].all aY=true:=by simp [k.name,k.portal,k.text]
 have w1:=nG (lo:=0) (hi:=4294967295) (by have:=w.oids;omega) k.oids
 have w2:=nG (lo:=0) (hi:=65535) (by have:=w.formats;omega) k.formats
 have w3:=nG (lo:=0) (hi:=65535) (by have:=w.results;omega) k.results
 have hmx:=k.max
 have hpo:=k.params
 clear k
 generalize hob:dA f=ob at hof hsa
 obtain ⟨DY,DZ,D0,xM,Ax,F2,F3,F4⟩:=w
 obtain ⟨⟨e1,l1⟩,⟨e2,l2⟩,⟨e3,l3⟩,e4⟩:=hf
 obtain ⟨fk,w,n,p,t,vo,o,vf,fs,vs,rs,vp,ps,mx⟩:=f
 dsimp only at e1 e2 e3 e4 l1 l2 l3 DY DZ D0 xM hmx hpo ht w1 w2 w3 hkno
 have k1:=fun {g:ah} (x:Ext No h g)=>gW o 0 4294967295 (e1.aq x) l1
 have k2:=fun {g:ah} (x:Ext No h g)=>gW fs 0 65535 (e2.aq x) l2
 have k3:=fun {g:ah} (x:Ext No h g)=>gW rs 0 65535 (e3.aq x) l3
 have k4:=fun {g:ah} (x:Ext No h g)=>AE ps (e4.aq x) hpo (by omega)
 rw [w1] at k1
 rw [w2] at k2
 rw [w3] at k3
 obtain ⟨A1,z1,rfl,_⟩:=id e1
 obtain ⟨A2,z2,rfl,_⟩:=id e2
 obtain ⟨A3,z3,rfl,_⟩:=id e3
 obtain ⟨_,⟨_,A4,z4,rfl,_⟩,_⟩:=id e4
 dsimp only [Fm.cells] at hof hsa hwh ⊢
 refine calls [(0,_)] Tryz.func97 rfl Tryz.ntmps97 rfl ⟨rfl,trivial⟩ ?_
 refine WC.sr ?_;refine WL.aj (aG rfl) rfl rfl rfl ?_
 rintro _ g1 ⟨b1,rfl,bR,aR,az⟩
 refine Go ?_;refine G3 ?_;refine Ld ?_;refine WL.call (vs:=[_]) rfl Tryz.call93 rfl (hkno) rfl rfl rfl ?_
 rintro _ g2 ⟨rfl,aI⟩
 have bH:=aI.obj aR aO
 have X2:=az.trans aI
 refine Go ?_;refine Gs [(1,_),(7,_)] ?_
 refine aH 1 2 ?_ TT.mk
 all_goals (refine aw 2 ?_)
 refine WC.skip ?_;refine Gn ?_;refine G2 ?_;refine Ld ?_;refine WL.call (vs:=[_,_,_]) rfl Tryz.call133 rfl (k1 X2) rfl rfl rfl ?_
 rintro _ g3 ⟨rfl,aQ⟩
 have bq:=aQ.obj bH aO
 have X3:=X2.trans aQ
 refine Go ?_
 refine bK 11 ?_ TT.mk
 refine Gg ?_;refine Ld ?_;refine WL.call (vs:=[_,_,_]) rfl Tryz.call133 rfl (k2 X3) rfl rfl rfl ?_
 rintro _ g4 ⟨rfl,aW⟩
 have bC:=aW.obj bq aO
 have X4:=X3.trans aW
 refine Go ?_
 refine bK 16 ?_ TT.mk
 refine Gg ?_;refine Ld ?_;refine WL.call (vs:=[_,_,_]) rfl Tryz.call133 rfl (k3 X4) rfl rfl rfl ?_
 rintro _ g5 ⟨rfl,aM⟩
 have bV:=aM.obj bC aO
 have X5:=X4.trans aM
 refine Go ?_
 refine bK 21 ?_ TT.mk
 refine Gg ?_;refine Ld ?_;refine WL.call (vs:=[_]) rfl Tryz.call134 rfl (k4 X5) rfl rfl rfl ?_
 rintro _ g6 ⟨rfl,aN⟩
 have bX:=aN.obj bV aO
 have X6:=X5.trans aN
 refine Go ?_;refine Gs [(1,_),(3,_)] ?_;refine WC.seq ?_;refine WC.sr ?_;refine WL.step (ay Tryz.isAgg42 Tryz.sizeOf42 rfl rfl (by exact At.av bX)) rfl rfl rfl ?_
 refine WL.call (vs:=[_]) rfl Tryz.call135 rfl (hwh X6) rfl rfl rfl ?_
 rintro _ g7 ⟨rfl,ba⟩
 have ca:=ba.obj bX aO
 have X7:=X6.trans ba
 refine Go ?_
 refine bK 29 ?_ TT.mk
 refine Gg ?_;refine Go ?_
 refine bK 33 ?_ TT.mk
 refine Gg ?_;refine Ld ?_;refine Gg ?_;refine Ld ?_;refine Gg ?_;refine Ld ?_;refine WL.aj (au (vs:=[_,_,_]) (cs:=[_,_,_]) (fun | [a0,a1,a2]=>[a0,a1,a2] | _=>[]) Tryz.underlying249 rfl rfl (by kernel_rfl)) rfl rfl rfl ?_
 rintro _ g8 ⟨b8,rfl,EB,bE,bz⟩
 have bY:=bz.obj ca aO
 have X8:=X7.trans bz
 refine WL.call (vs:=[_]) rfl Tryz.call136 rfl (ru [n,p,t] (bx bE rfl) (by simp [maxLen])) rfl rfl rfl ?_
 rintro _ hz ⟨rfl,_⟩
 subst hz
 rw [ht]
 refine Gg ?_;refine Go ?_
 refine bK 44 ?_ TT.mk
 refine Gg ?_;refine Ld ?_;refine Gg ?_;refine Go ?_
 refine bK 49 ?_ TT.mk
 refine Gg ?_;refine Ld ?_;refine Gg ?_;refine Go ?_;refine Gs [(1,_),(53,_)] ?_
 refine aH 3 4 ?_ TT.mk
 all_goals (refine aw 4 ?_)
 refine WC.skip ?_;refine Gn ?_;refine WC.seq ?_;refine WC.seq ?_;refine WC.bW (fun h'=>h'[b1]?=some (.cells ⟨[.int .u8 fk,.int .u8 w,St n,St p,St t,.slice A1 o.length z1,.slice A2 fs.length z2,.slice A3 rs.length z3,.slice A4 ps.length z4,In mx]⟩ 42 (0,0))) 5 5 rfl dm ?_
 refine WH.tk 0 rfl (fun hq hC=>ay Tryz.isAgg42 Tryz.sizeOf42 rfl rfl (by exact At.av hC)) rfl rfl rfl ?_ (hC:=(by first | exact oA | exact fI | exact bY))
 refine WH.tk 1 rfl (fun hq hC=>ay Tryz.isAgg42 Tryz.sizeOf42 rfl rfl (by exact At.av hC)) rfl rfl rfl ?_ (hC:=(by first | exact oA | exact fI | exact bY))
 refine WH.one 2 (by kernel_rfl) ?_
 refine aC.call (vs:=[_]) rfl rfl Tryz.call138 rfl (hof X8) rfl rfl rfl ?_ (fun _=>by kernel_rfl)
 rintro _ g10 ⟨rfl,ct⟩
 have fI:=ct.obj bY aO
 have yr:=X8.trans ct
 refine ⟨fun _=>fI,?_⟩
 refine WH.one 3 (by kernel_rfl) ?_
 refine aC.call (vs:=[_,_]) rfl rfl Tryz.call137 rfl (hsa yr) rfl rfl rfl ?_ (fun _=>by kernel_rfl)
 rintro _ g11 ⟨rfl,cM⟩
 have oA:=cM.obj fI aO
 refine ⟨fun _=>oA,?_⟩
 refine WH.tk 4 rfl (fun hq hC=>dw rfl) rfl rfl rfl ?_ (hC:=(by first | exact oA | exact fI | exact bY))
 refine WH.done (by kernel_rfl) ?_
 refine Gn ?_;refine Gs [(58,_)] ?_
 refine aH 5 6 ?_ TT.mk
 all_goals (refine aw 6 ?_)
 refine WC.skip ?_;refine Gn ?_;refine G2 ?_;refine Gt ?_
 exact ⟨rfl,yr.trans cM⟩
structure Hid (p:Prop):Prop where
 out:p
theorem je {v:Value} {q:Nat} (h:du v [] q):False:=by
 rcases h with ⟨h,_⟩ | ⟨c,h,_⟩
 · exact absurd h (Nat.lt_irrefl 0)
 · exact nomatch h
theorem ND {w:Int} (h:w=83∨w=80):[UInt8.ofNat w.toNat]=be w 1:=by
 rcases h with rfl | rfl <;> rfl
def Bz (n:Int):Int:=if n < 0 then n+4294967296 else n
theorem F9 {n:Int} (h : -2147483648≤n):be n 4=be (Bz n) 4:=by
 unfold Bz
 split
 · have h:∀ i,i < 4→bI (n+256 ^ 4) i=bI n i:=fun i hi=>yg hi
   exact (iS (m:=n+256 ^ 4) (n:=n) h (by decide) 4).symm
 · rfl
theorem AG {h:ah} {n:Int} (hn : -2147483648≤n∧n≤2147483647):ag Tryz.prog 131 ⟨[In (Bz n),In 4]⟩ h fun u h'=>u=In n∧h'=h:=by
 have kz:=fun h'=>vW (h:=h') (s:=4) (.inr (.inr rfl))
 have ks:=fun h'=>ye (h:=h') 4 (.inr (.inr rfl))
 simp only [show ((256:Int) ^ 4)=4294967296 from rfl] at ks
 have hu:Bz n=if n < 0 then n+4294967296 else n:=rfl
 by_cases h0:n < 0
 · rw [if_pos h0] at hu
   generalize Bz n=m at hu ⊢
   refine calls [(0,_),(1,_)] Tryz.func131 rfl Tryz.ntmps131 rfl ⟨rfl,rfl,trivial⟩ ?_
   refine G2 ?_;refine G3 ?_;refine WL.call (vs:=[_]) rfl Tryz.call180 rfl (kz _) rfl rfl rfl ?_
   rintro _ hz ⟨rfl,_⟩
   subst hz
   refine Go ?_
   refine aH 1 2 ?_ TT.mk
   all_goals (refine aw 2 ?_)
   refine WC.skip ?_;refine Gn ?_;refine Gs [(0,_),(1,_)] ?_;refine G3 ?_;refine WL.call (vs:=[_]) rfl Tryz.call181 rfl (ks _) rfl rfl rfl ?_
   rintro _ hz ⟨rfl,_⟩
   subst hz
   refine WL.step (iR rfl rfl (by decide) (j3 (by omega) (by decide))) rfl rfl rfl ?_
   rw [show (4294967296:Int).tdiv 2=2147483648 from rfl]
   refine Go ?_;refine G2 ?_
   refine bK 16 ?_ TT.mk
   refine Gg ?_;refine WL.call (vs:=[_]) rfl Tryz.call181 rfl (ks _) rfl rfl rfl ?_
   rintro _ hz ⟨rfl,_⟩
   subst hz
   refine Gg ?_;refine Go ?_;refine Gs [(0,_),(1,_),(21,_)] ?_
   refine aH 3 4 ?_ TT.mk
   all_goals (refine aw 3 ?_)
   refine WC.region (Go ?_);refine WL.call (vs:=[_]) rfl Tryz.call181 rfl (ks _) rfl rfl rfl ?_
   rintro _ hz ⟨rfl,_⟩
   subst hz
   refine Go ?_;refine Gn ?_;refine G2 ?_;refine Gs [(4,_)] ?_;refine Gt ?_
   exact ⟨congrArg In (by omega),rfl⟩
 · rw [if_neg h0] at hu
   generalize Bz n=m at hu ⊢
   refine calls [(0,_),(1,_)] Tryz.func131 rfl Tryz.ntmps131 rfl ⟨rfl,rfl,trivial⟩ ?_
   refine G2 ?_;refine G3 ?_;refine WL.call (vs:=[_]) rfl Tryz.call180 rfl (kz _) rfl rfl rfl ?_
   rintro _ hz ⟨rfl,_⟩
   subst hz
   refine Go ?_
   refine aH 1 2 ?_ TT.mk
   all_goals (refine aw 2 ?_)
   refine WC.skip ?_;refine Gn ?_;refine Gs [(0,_),(1,_)] ?_;refine G3 ?_;refine WL.call (vs:=[_]) rfl Tryz.call181 rfl (ks _) rfl rfl rfl ?_
   rintro _ hz ⟨rfl,_⟩
   subst hz
   refine WL.step (iR rfl rfl (by decide) (j3 (by omega) (by decide))) rfl rfl rfl ?_
   rw [show (4294967296:Int).tdiv 2=2147483648 from rfl]
   refine Go ?_;refine G2 ?_
   refine bK 16 ?_ TT.mk
   refine Gg ?_;refine WL.pass rfl rfl rfl ?_;refine Gg ?_;refine Go ?_;refine Gs [(0,_),(1,_),(21,_)] ?_
   refine aH 3 4 ?_ TT.mk
   all_goals (refine aw 4 ?_)
   refine WC.skip ?_;refine Gn ?_;refine G2 ?_;refine Gs [(4,_)] ?_;refine Gt ?_
   exact ⟨congrArg In (by omega),rfl⟩
abbrev NF:=Int × Int × List UInt8 × List UInt8 × List UInt8 × List Int × List Int × List Int × List (Bool × List UInt8) × Int
theorem nH (f:Fm):(dA f).pl=(if f.kind=80 then (f.kind,0,f.name,[],f.text,f.oids,[],[],[],0)
   else if f.kind=66 then (f.kind,0,f.name,f.portal,[],[],f.formats,f.results,f.params.map aX.pl,0)
   else if f.kind=67∨f.kind=68 then (if f.what=83 then (f.kind,f.what,f.name,[],[],[],[],[],[],0) else (f.kind,f.what,[],f.portal,[],[],[],[],[],0))
   else if f.kind=69 then (f.kind,0,[],f.portal,[],[],[],[],[],f.max)
   else if f.kind=81 then (f.kind,0,[],[],f.text,[],[],[],[],0)
   else (f.kind,0,[],[],[],[],[],[],[],0):NF):=by
 unfold dA
 repeat' split
 all_goals rfl
def Fm.A (f:Fm) (q:Nat):Prop:=f.vo.ownBlock=some q∨f.vf.ownBlock=some q∨f.vs.ownBlock=some q∨du f.vp f.params q
theorem ej (h:ah):Rd h (.slice none 0 0) 1 ([]:List Int).length (ints []):=Rd.nil _ _
theorem C8 {h:ah} {b:Nat} {v:Value} (f:Fm) (w:f.vU) (k:f.may) (sc:Sc h b v (iq f)) (hv:∀ q,v.ownBlock=some q→q < h.size) :
   ag Tryz.prog 95 ⟨[.agg ⟨[.pointer (some ⟨b,0,none⟩)]⟩,.int .u8 f.kind]⟩ h fun u h'=>∃ (g:Fm) (v':Value),u=.agg ⟨g.cells⟩∧g.pl=f.pl∧g.ok h'∧(∀ q,g.A q→h.size≤q)∧Sc h' b v' []∧Ext (fun q=>q=b) h h':=by
 have hlb:=ai sc.bm
 have l4:=nD w.params w.cells
 have hE:iq f=(if f.kind=80 then f.name++[0]++f.text++[0]++be f.oids.length 2++dB 4 f.oids
   else if f.kind=66 then f.portal++[0]++f.name++[0]++be f.formats.length 2++dB 2 f.formats++be f.params.length 2++fK (f.params.map aX.pl)++be f.results.length 2++dB 2 f.results
   else if f.kind=67∨f.kind=68 then [UInt8.ofNat f.what.toNat]++(f.name++f.portal)++[0]
   else if f.kind=69 then f.portal++[0]++be f.max 4
   else if f.kind=81 then f.text++[0]
   else []):=rfl
 have hK:=nH f
 rw [← k.own] at hK
 have hwh:Hid ((f.kind=67∨f.kind=68)→(f.what=83∨f.what=80)):=⟨fun z=>(nF k).elim (fun y=>y.2) (fun y=>(z.elim y.1 y.2.1).elim)⟩
 have c1:=k.name
 have c2:=k.portal
 have c3:=k.text
 have m1:=k.oids
 have m2:=k.formats
 have m3:=k.results
 have m4:=k.params
 have m5:=k.max
 have hcx:aY (f.name++f.portal)=true:=by rw [jc,c1,c2];rfl
 have LW:∀ c∈f.params.map aX.pl,(c.1=true→c.2.length=0)∧c.2.length≤1000000:=fun c hc=>by
   obtain ⟨d,hd,rfl⟩:=List.mem_map.1 hc
   exact ⟨(m4 d hd).1,by have:=w.cells d hd;show d.bytes.length≤_;omega⟩
 have Ik:=nE k.kind
 clear k m4
 obtain ⟨DY,DZ,D0,xM,Ax,F2,F3,F4⟩:=w
 clear Ax
 generalize iq f=EM at hE sc
 have hPL:f.pl=(f.kind,f.what,f.name,f.portal,f.text,f.oids,f.formats,f.results,f.params.map aX.pl,f.max):=rfl
 generalize f.pl=PL at hK hPL ⊢
 obtain ⟨fk,ww,n,p,t,vo,o,vf,fs,vs,rs,vp,ps,mx⟩:=f
 dsimp only at hE hK hwh c1 c2 c3 m1 m2 m3 LW m5 hcx DY DZ D0 xM F2 F3 F4 l4 hPL Ik ⊢
 generalize hR:ps.map aX.pl=R at *
 have NG:R.length≤50:=by rw [← hR,List.length_map];exact xM
 have eR:((ps.length:Nat):Int)=((R.length:Nat):Int):=by rw [← hR,List.length_map]
 rw [eR] at hE
 refine calls [(0,_),(1,_)] Tryz.func95 rfl Tryz.ntmps95 rfl ⟨rfl,rfl,trivial⟩ ?_
 refine WC.sr ?_;refine WL.aj (aG rfl) rfl rfl rfl ?_
 rintro _ h1 ⟨b1,rfl,bR,aR,az⟩
 refine WL.aj (an (fun w=>Tryz.zeroValue42 w)) rfl rfl rfl ?_
 rintro _ h2 ⟨b2,rfl,gg,bH,aI⟩
 refine Gn ?_;refine G2 ?_;refine WL.step (aF (vs:=[_]) (cs:=[_,_,_,_,_,_,_,_,_,_]) (fun | [a0]=>[a0,(.int .u8 0),(St []),(St []),(St []),(.slice none 0 0),(.slice none 0 0),(.slice none 0 0),(.slice none 0 0),(.int .i64 0)] | _=>[]) rfl rfl (by kernel_rfl)) rfl rfl rfl ?_
 refine WL.aj (an (fun w=>Tryz.zeroValue42 w)) rfl rfl rfl ?_
 rintro _ h3 ⟨b3,rfl,gl,bq,aQ⟩
 refine WL.ax (al Tryz.sizeOf42 rfl rfl rfl (by assumption) rfl (by simp [Value.oneCell'])) rfl rfl ?_
 rintro _ h4 ⟨bC,aW⟩
 have s1:=az.size
 have s2:=aI.size
 have l1:=ai aR
 have l2:=ai bH
 have n3:b3 ≠ b:=by omega
 have n1:b1 ≠ b:=by omega
 have n2:b2 ≠ b:=by omega
 have X4:Ext No h h4:=((az.trans aI).trans aQ).trans' aW (fun q hq e=>by omega)
 have bJ:=aW.obj ((aI.trans aQ).obj aR aO) (fun e=>by omega)
 have pQ:=aW.obj (aQ.obj bH aO) (fun e=>by omega)
 have uP:=sc.ext X4 aO (fun _ _=>aO)
 have LX:∀ q,v.ownBlock=some q→q < h4.size:=fun q hq=>(by have:=hv q hq;have:=X4.size;omega)
 have s4:=X4.size
 have gr:b1 ≠ b3:=by omega
 have kR:b2 ≠ b3:=by omega
 refine Gn ?_;refine G3 ?_;refine Gs [(2,_),(4,_),(5,_),(9,_)] ?_;refine WC.block ?_;refine G2 ?_
 refine aH 1 2 (Hb.mk fun hb=>?_) (Hb.mk fun hb=>?_)
 all_goals try (
 refine aw 1 ?_
 refine WC.sr ?_
 have C9:Sc h4 b v (n++[0]++(t++[0]++(be (o.length:Int) 2++(dB 4 o++[])))):=by rw [hE,if_pos (by omega)] at uP;simpa using uP
 refine WL.step (ad rfl Tryz.underlying161 rfl Tryz.sizeOf158) rfl rfl rfl ?_;refine WL.ld rfl (by first | exact aa bJ rfl | assumption) rfl rfl rfl ?_
 refine WL.call (vs:=[_]) rfl Tryz.call128 rfl (fJ c1 C9 (by simp [bn,cD];omega)) rfl rfl rfl ?_
 rintro _ h5 ⟨v5,rfl,k5,aM,oz⟩
 have db:=aM.obj bJ n1
 have im:=aM.obj bC n3
 refine Go ?_;refine WL.ax (aB Tryz.sizeOf9 rfl rfl im (Nat.le_of_ble_eq_true rfl) rfl rfl) rfl rfl ?_
 rintro _ h6 ⟨bX,aN⟩
 have dx:=aN.obj db gr
 have k6:=k5.ext aN (fun e=>n3 e.symm) (fun q hq e=>by have:=hv q (oz q hq);omega)
 refine Gn ?_;refine Gs [(2,_),(4,_),(5,_)] ?_;refine G2 ?_;refine WL.ld rfl (by first | exact aa dx rfl | assumption) rfl rfl rfl ?_
 refine WL.call (vs:=[_]) rfl Tryz.call128 rfl (fJ c3 k6 (by simp [bn,cD];omega)) rfl rfl rfl ?_
 rintro _ h7 ⟨v7,rfl,k7,ba,AH⟩
 have kV:=ba.obj dx n1
 have qI:=ba.obj bX n3
 refine Go ?_;refine WL.ax (aB Tryz.sizeOf9 rfl rfl qI (Nat.le_of_ble_eq_true rfl) rfl rfl) rfl rfl ?_
 rintro _ h8 ⟨bE,bz⟩
 have fQ:=bz.obj kV gr
 have jO:Ext (fun q=>q=b∨q=b3) h4 h8:=(((aM.mono fun _ _ e=>.inl e).trans (aN.mono fun _ _ e=>.inr e)).trans (ba.mono fun _ _ e=>.inl e)).trans (bz.mono fun _ _ e=>.inr e)
 have D2:=oz.trans AH
 have k8:=k7.ext bz (fun e=>n3 e.symm) (fun q hq e=>by have:=hv q (D2 q hq);omega)
 have s8:=jO.size
 refine Gn ?_;refine Gs [(2,_),(4,_),(5,_)] ?_;refine WC.region ?_;refine WL.step (ay Tryz.isAgg161 Tryz.sizeOf161 rfl rfl (by exact At.av fQ)) rfl rfl rfl ?_
 refine WL.call (vs:=[_,_]) rfl Tryz.call129 rfl (qH (s:=4) (.inr (.inr rfl)) o (fun n hn=>by have:=m1 n hn;omega) (by omega) [] k8 (fun q hq=>by have:=hv q (D2 q hq);omega) (by simp [bn,cD];omega)) rfl rfl rfl ?_
 rintro u9 h9 ⟨v9,D3,k9,bZ,Jf,wa⟩
 obtain ⟨A9,c9,rfl,_⟩:=D3.slice
 have Ga:=bZ.obj bE n3
 refine Go ?_;refine WL.ax (aB Tryz.sizeOf39 rfl rfl Ga (Nat.le_of_ble_eq_true rfl) rfl rfl) rfl rfl ?_
 rintro _ iG ⟨fI,ct⟩
 have sy:=k9.ext ct (fun e=>n3 e.symm) (fun q hq e=>by have:=hv q (D2 q (Jf q hq));omega)
 have mW:=D3.rd.ext' ct (fun q _ hq e=>by have:=wa q hq;have:=ai bE;omega)
 have yr:Ext (fun q=>q=b∨q=b3) h4 iG:=(jO.trans (bZ.mono fun _ _ e=>.inl e)).trans (ct.mono fun _ _ e=>.inr e)
 obtain ⟨g,hg⟩:∃ g:Fm,g=⟨fk,0,n,[],t,.slice A9 o.length c9,o,.slice none 0 0,[],.slice none 0 0,[],.slice none 0 0,[],0⟩:=⟨_,rfl⟩
 have gC:iG[b3]?=some (.cells ⟨g.cells⟩ 42 (0,0)):=by subst hg;exact fI
 have gP:g.pl=PL:=by rw [hK,if_pos (by omega)];subst hg;rfl
 have gO:g.ok iG:=by subst hg;exact ⟨⟨mW,by show o.length≤_;unfold maxLen;omega⟩,⟨ej _,Nat.zero_le _⟩,⟨ej _,Nat.zero_le _⟩,fX _⟩
 have gA:∀ q,g.A q→h4.size≤q∧q ≠ b3∧q ≠ b2:=fun q hq=>(by subst hg;exact hq.elim (fun e=>by have:=wa q e;have:=ai bE;omega) (fun e=>e.elim (fun e=>by cases e) (fun e=>e.elim (fun e=>by cases e) (fun e=>(je e).elim))))
 have kZ:=sy
 have XZ:=yr
 have soZ:=D2.trans Jf
 refine Gn ?_
 skip)
 all_goals try (
 refine aw 2 ?_
 refine G2 ?_
 refine aH 3 4 (Hb.mk fun hb=>?_) (Hb.mk fun hb=>?_)
 all_goals try (
 refine aw 3 ?_
 refine WC.sr ?_
 have C9:Sc h4 b v (p++[0]++(n++[0]++(be (fs.length:Int) 2++(dB 2 fs++(be (R.length:Int) 2++(fK R++(be (rs.length:Int) 2++(dB 2 rs++[])))))))):=by rw [hE,if_neg (by omega),if_pos (by omega)] at uP;simpa using uP
 refine WL.step (ad rfl Tryz.underlying161 rfl Tryz.sizeOf158) rfl rfl rfl ?_;refine WL.ld rfl (by first | exact aa bJ rfl | assumption) rfl rfl rfl ?_
 refine WL.call (vs:=[_]) rfl Tryz.call128 rfl (fJ c2 C9 (by simp [bn,cD];omega)) rfl rfl rfl ?_
 rintro _ h5 ⟨v5,rfl,k5,aM,oz⟩
 have db:=aM.obj bJ n1
 have im:=aM.obj bC n3
 refine Go ?_;refine WL.ax (aB Tryz.sizeOf9 rfl rfl im (Nat.le_of_ble_eq_true rfl) rfl rfl) rfl rfl ?_
 rintro _ h6 ⟨bX,aN⟩
 have dx:=aN.obj db gr
 have k6:=k5.ext aN (fun e=>n3 e.symm) (fun q hq e=>by have:=hv q (oz q hq);omega)
 refine Gn ?_;refine Gs [(2,_),(4,_),(5,_)] ?_;refine G2 ?_;refine WL.ld rfl (by first | exact aa dx rfl | assumption) rfl rfl rfl ?_
 refine WL.call (vs:=[_]) rfl Tryz.call128 rfl (fJ c1 k6 (by simp [bn,cD];omega)) rfl rfl rfl ?_
 rintro _ h7 ⟨v7,rfl,k7,ba,AH⟩
 have kV:=ba.obj dx n1
 have qI:=ba.obj bX n3
 refine Go ?_;refine WL.ax (aB Tryz.sizeOf9 rfl rfl qI (Nat.le_of_ble_eq_true rfl) rfl rfl) rfl rfl ?_
 rintro _ h8 ⟨bE,bz⟩
 have fQ:=bz.obj kV gr
 have jO:Ext (fun q=>q=b∨q=b3) h4 h8:=(((aM.mono fun _ _ e=>.inl e).trans (aN.mono fun _ _ e=>.inr e)).trans (ba.mono fun _ _ e=>.inl e)).trans (bz.mono fun _ _ e=>.inr e)
 have D2:=oz.trans AH
 have k8:=k7.ext bz (fun e=>n3 e.symm) (fun q hq e=>by have:=hv q (D2 q hq);omega)
 have s8:=jO.size
 refine Gn ?_;refine Gs [(2,_),(4,_),(5,_)] ?_;refine WC.sr ?_;refine WL.step (ay Tryz.isAgg161 Tryz.sizeOf161 rfl rfl (by exact At.av fQ)) rfl rfl rfl ?_
 refine WL.call (vs:=[_,_]) rfl Tryz.call129 rfl (qH (s:=2) (.inr (.inl rfl)) fs (fun n hn=>by have:=m2 n hn;omega) (by omega) _ k8 (fun q hq=>by have:=hv q (D2 q hq);omega) (by simp [bn,cD];omega)) rfl rfl rfl ?_
 rintro u9 h9 ⟨v9,D3,k9,bZ,Jf,wa⟩
 obtain ⟨A9,c9,rfl,_⟩:=D3.slice
 have Ga:=bZ.obj bE n3
 have FC:=bZ.obj fQ n1
 refine Go ?_;refine WL.ax (aB Tryz.sizeOf39 rfl rfl Ga (Nat.le_of_ble_eq_true rfl) rfl rfl) rfl rfl ?_
 rintro _ iG ⟨fI,ct⟩
 have Gb:=D2.trans Jf
 have sy:=k9.ext ct (fun e=>n3 e.symm) (fun q hq e=>by have:=hv q (Gb q hq);omega)
 have mW:=D3.rd.ext' ct (fun q _ hq e=>by have:=wa q hq;have:=ai bE;omega)
 have yr:Ext (fun q=>q=b∨q=b3) h4 iG:=(jO.trans (bZ.mono fun _ _ e=>.inl e)).trans (ct.mono fun _ _ e=>.inr e)
 have nI:=ct.obj FC gr
 have M3:=yr.size
 have s9:=bZ.size
 have NH:=ct.size
 refine Gn ?_;refine WC.sr ?_;refine WL.step (ay Tryz.isAgg161 Tryz.sizeOf161 rfl rfl (by exact At.av nI)) rfl rfl rfl ?_
 refine WL.call (vs:=[_]) rfl Tryz.call130 rfl (F6 R LW (by omega) _ sy (fun q hq=>by have:=hv q (Gb q hq);omega) (by simp [bn,cD];omega)) rfl rfl rfl ?_
 rintro O6 qh ⟨v11,LY,Il,KJ,zU,cM,KK,Da⟩
 obtain ⟨_,⟨_,NI,J9,rfl,_⟩,_⟩:=id Il
 have Im:=cM.obj fI n3
 have Io:=cM.obj nI n1
 have uH:=mW.ext' cM (fun q _ hq e=>by have:=wa q hq;omega)
 refine Go ?_;refine WL.ax (aB Tryz.sizeOf40 rfl rfl Im (Nat.le_of_ble_eq_true rfl) rfl rfl) rfl rfl ?_
 rintro _ qS ⟨bT,ey⟩
 have Db:=Gb.trans KK
 have Bu:=zU.ext ey (fun e=>n3 e.symm) (fun q hq e=>by have:=hv q (Db q hq);omega)
 have Gc:=uH.ext' ey (fun q _ hq e=>by have:=wa q hq;have:=ai bE;omega)
 have KL:=Il.ext ey (fun q hq e=>by have:=Da q hq;have:=ai fI;omega)
 have GO:Ext (fun q=>q=b∨q=b3) h4 qS:=(yr.trans (cM.mono fun _ _ e=>.inl e)).trans (ey.mono fun _ _ e=>.inr e)
 have Ip:=ey.obj Io gr
 have Na:=GO.size
 have M4:=cM.size
 have LZ:=ey.size
 refine Gn ?_;refine Gs [(2,_),(4,_),(5,_)] ?_;refine WC.region ?_;refine WL.step (ay Tryz.isAgg161 Tryz.sizeOf161 rfl rfl (by exact At.av Ip)) rfl rfl rfl ?_
 refine WL.call (vs:=[_,_]) rfl Tryz.call129 rfl (qH (s:=2) (.inr (.inl rfl)) rs (fun n hn=>by have:=m3 n hn;omega) (by omega) _ Bu (fun q hq=>by have:=hv q (Db q hq);omega) (by simp [bn,cD];omega)) rfl rfl rfl ?_
 rintro O7 FD ⟨O8,Iq,Kc,gw,Ir,Is⟩
 obtain ⟨L0,L4,rfl,_⟩:=Iq.slice
 have Iu:=gw.obj bT n3
 have Iv:=Gc.ext' gw (fun q _ hq e=>by have:=wa q hq;omega)
 have KM:=KL.ext gw (fun q hq e=>by have:=Da q hq;omega)
 refine Go ?_;refine WL.ax (aB Tryz.sizeOf39 rfl rfl Iu (Nat.le_of_ble_eq_true rfl) rfl rfl) rfl rfl ?_
 rintro _ CH ⟨Iw,il⟩
 have soZ:=Db.trans Ir
 have kZ:=Kc.ext il (fun e=>n3 e.symm) (fun q hq e=>by have:=hv q (Db q (Ir q hq));omega)
 have XZ:Ext (fun q=>q=b∨q=b3) h4 CH:=(GO.trans (gw.mono fun _ _ e=>.inl e)).trans (il.mono fun _ _ e=>.inr e)
 obtain ⟨g,hg⟩:∃ g:Fm,g=⟨fk,0,n,p,[],.slice none 0 0,[],.slice A9 fs.length c9,fs,.slice L0 rs.length L4,rs,.slice NI LY.length J9,LY,0⟩:=⟨_,rfl⟩
 have gC:CH[b3]?=some (.cells ⟨g.cells⟩ 42 (0,0)):=by subst hg;exact Iw
 have gP:g.pl=PL:=by rw [hK,if_neg (by omega),if_pos (by omega)];subst hg;rw [← KJ];rfl
 have gO:g.ok CH:=by subst hg;exact ⟨⟨ej _,Nat.zero_le _⟩,⟨Iv.ext' il (fun q _ hq e=>by have:=wa q hq;have:=ai bE;omega),by show fs.length≤_;unfold maxLen;omega⟩,⟨Iq.rd.ext' il (fun q _ hq e=>by have:=Is q hq;have:=ai bT;omega),by show rs.length≤_;unfold maxLen;omega⟩,KM.ext il (fun q hq e=>by have:=Da q hq;have:=ai fI;omega)⟩
 have gA:∀ q,g.A q→h4.size≤q∧q ≠ b3∧q ≠ b2:=fun q hq=>(by subst hg;exact hq.elim (fun e=>by cases e) (fun e=>e.elim (fun e=>by have:=wa q e;have:=ai bE;omega) (fun e=>e.elim (fun e=>by have:=Is q e;have:=ai bT;omega) (fun e=>by have:=Da q e;have:=ai fI;omega))))
 refine Gn ?_
 skip)
 all_goals try (
 refine aw 4 ?_
 refine G3 ?_;refine Gs [(2,_),(4,_),(5,_),(9,_),(42,_)] ?_
 refine aH 5 6 (Hb.mk fun hb=>?_) (Hb.mk fun hb=>?_)
 all_goals try (
 refine aw 5 ?_
 refine WC.skip ?_
 skip)
 all_goals try (
 refine aw 6 ?_
 refine WC.region (Go ?_)
 skip)
 all_goals (refine Gn ?_;refine aH 7 8 (Hb.mk fun hb=>?_) (Hb.mk fun hb=>?_))
 all_goals try (
 refine aw 7 ?_
 all_goals (refine WC.sr ?_;have LU:=hwh.out (by omega);have eW:=ND LU;(have C9:Sc h4 b v (be ww 1++((n++p)++[0]++[])):=by rw [hE,if_neg (by omega),if_neg (by omega),if_pos (by omega),eW] at uP;simpa using uP);refine WL.step (ad rfl Tryz.underlying161 rfl Tryz.sizeOf158) rfl rfl rfl ?_;refine WL.ld rfl (by first | exact aa bJ rfl | assumption) rfl rfl rfl ?_;refine WL.call (vs:=[_,_]) rfl Tryz.call122 rfl (jd (s:=1) (.inl rfl) (by omega) (by omega) _ C9 (by simp [bn];omega)) rfl rfl rfl ?_;rintro _ h5 ⟨v5,rfl,k5,aM,oz⟩;have db:=aM.obj bJ n1;have im:=aM.obj bC n3;refine WL.step (oF Tryz.underlying3 Tryz.underlying5 rfl (by omega)) rfl rfl rfl (Go ?_);refine WL.ax (aB Tryz.sizeOf5 rfl rfl im (Nat.le_of_ble_eq_true rfl) rfl rfl) rfl rfl ?_;rintro _ h6 ⟨bX,aN⟩;have dx:=aN.obj db gr;have k6:=k5.ext aN (fun e=>n3 e.symm) (fun q hq e=>by have:=hv q (oz q hq);omega);refine Gn ?_;refine Gs [(2,_),(4,_),(5,_)] ?_;refine G2 ?_;refine WL.ld rfl (by first | exact aa dx rfl | assumption) rfl rfl rfl ?_;refine WL.call (vs:=[_]) rfl Tryz.call128 rfl (fJ hcx k6 (by simp;omega)) rfl rfl rfl ?_;rintro _ h7 ⟨v7,rfl,k7,ba,AH⟩;have qI:=ba.obj bX n3;refine Go ?_;refine Gs [(4,_),(5,_),(6,_)] ?_;refine G2 ?_;refine WL.ld rfl (by first | exact aa qI rfl | assumption) rfl rfl rfl (Go ?_);refine aH 9 10 (Hb.mk fun hb=>?_) (Hb.mk fun hb=>?_))
 all_goals try (
 refine aw 9 ?_
 all_goals (refine WC.region (Go ?_);refine WL.ax (aB Tryz.sizeOf9 rfl rfl qI (Nat.le_of_ble_eq_true rfl) rfl rfl) rfl rfl ?_;rintro _ h8 ⟨bE,bz⟩)
 all_goals (
  have soZ:=oz.trans AH
  have kZ:=k7.ext bz (fun e=>n3 e.symm) (fun q hq e=>by have:=hv q (oz q (AH q hq));omega)
  have XZ:Ext (fun q=>q=b∨q=b3) h4 h8:=(((aM.mono fun _ _ e=>.inl e).trans (aN.mono fun _ _ e=>.inr e)).trans (ba.mono fun _ _ e=>.inl e)).trans (bz.mono fun _ _ e=>.inr e)
  obtain ⟨g,hg⟩:∃ g:Fm,g=⟨fk,ww,n++p,[],[],.slice none 0 0,[],.slice none 0 0,[],.slice none 0 0,[],.slice none 0 0,[],0⟩:=⟨_,rfl⟩
  have gC:h8[b3]?=some (.cells ⟨g.cells⟩ 42 (0,0)):=by subst hg;exact bE
  rw [if_neg (by omega),if_neg (by omega),if_pos (by omega),if_pos (by omega)] at hK
  have I5:p=[]:=congrArg (fun x=>x.2.2.2.1) (hPL.symm.trans hK)
  have gP:g.pl=PL:=by rw [hK];subst hg I5;simp [Fm.pl]
  have gO:g.ok h8:=by subst hg;exact ⟨⟨ej _,Nat.zero_le _⟩,⟨ej _,Nat.zero_le _⟩,⟨ej _,Nat.zero_le _⟩,fX _⟩
  have gA:∀ q,g.A q→h4.size≤q∧q ≠ b3∧q ≠ b2:=fun q hq=>(by subst hg;exact hq.elim (fun e=>by cases e) (fun e=>e.elim (fun e=>by cases e) (fun e=>e.elim (fun e=>by cases e) (fun e=>(je e).elim)))))
 all_goals (refine Gn ?_)
 skip)
 all_goals try (
 refine aw 10 ?_
 all_goals (refine WC.region (Go ?_);refine WL.ax (aB Tryz.sizeOf9 rfl rfl qI (Nat.le_of_ble_eq_true rfl) rfl rfl) rfl rfl ?_;rintro _ h8 ⟨bE,bz⟩)
 all_goals (
  have soZ:=oz.trans AH
  have kZ:=k7.ext bz (fun e=>n3 e.symm) (fun q hq e=>by have:=hv q (oz q (AH q hq));omega)
  have XZ:Ext (fun q=>q=b∨q=b3) h4 h8:=(((aM.mono fun _ _ e=>.inl e).trans (aN.mono fun _ _ e=>.inr e)).trans (ba.mono fun _ _ e=>.inl e)).trans (bz.mono fun _ _ e=>.inr e)
  obtain ⟨g,hg⟩:∃ g:Fm,g=⟨fk,ww,[],n++p,[],.slice none 0 0,[],.slice none 0 0,[],.slice none 0 0,[],.slice none 0 0,[],0⟩:=⟨_,rfl⟩
  have gC:h8[b3]?=some (.cells ⟨g.cells⟩ 42 (0,0)):=by subst hg;exact bE
  rw [if_neg (by omega),if_neg (by omega),if_pos (by omega),if_neg (by omega)] at hK
  have Eo:n=[]:=congrArg (fun x=>x.2.2.1) (hPL.symm.trans hK)
  have gP:g.pl=PL:=by rw [hK];subst hg Eo;simp [Fm.pl]
  have gO:g.ok h8:=by subst hg;exact ⟨⟨ej _,Nat.zero_le _⟩,⟨ej _,Nat.zero_le _⟩,⟨ej _,Nat.zero_le _⟩,fX _⟩
  have gA:∀ q,g.A q→h4.size≤q∧q ≠ b3∧q ≠ b2:=fun q hq=>(by subst hg;exact hq.elim (fun e=>by cases e) (fun e=>e.elim (fun e=>by cases e) (fun e=>e.elim (fun e=>by cases e) (fun e=>(je e).elim)))))
 all_goals (refine Gn ?_)
 skip)
 skip)
 all_goals try (
 refine aw 8 ?_
 all_goals (refine G2 ?_;first | refine aH 11 12 ?_ TT.mk | (refine aH 11 12 (Hb.mk fun hb=>?_) (Hb.mk fun hb=>?_)))
 all_goals try (
 refine aw 11 ?_
 all_goals (refine WC.sr ?_;(have C9:Sc h4 b v (p++[0]++(be (Bz mx) 4++[])):=by rw [hE,if_neg (by omega),if_neg (by omega),if_neg (by omega),if_pos (by omega),F9 m5.1] at uP;simpa using uP);have hu:0≤Bz mx∧Bz mx < 256 ^ 4:=by unfold Bz;split <;> omega)
 all_goals (refine WL.step (ad rfl Tryz.underlying161 rfl Tryz.sizeOf158) rfl rfl rfl ?_;refine WL.ld rfl (by first | exact aa bJ rfl | assumption) rfl rfl rfl ?_;refine WL.call (vs:=[_]) rfl Tryz.call128 rfl (fJ c2 C9 (by simp [bn];omega)) rfl rfl rfl ?_;rintro _ h5 ⟨v5,rfl,k5,aM,oz⟩;have db:=aM.obj bJ n1;have im:=aM.obj bC n3;refine Go ?_;refine WL.ax (aB Tryz.sizeOf9 rfl rfl im (Nat.le_of_ble_eq_true rfl) rfl rfl) rfl rfl ?_;rintro _ h6 ⟨bX,aN⟩;have dx:=aN.obj db gr;have k6:=k5.ext aN (fun e=>n3 e.symm) (fun q hq e=>by have:=hv q (oz q hq);omega);refine Gn ?_;refine Gs [(2,_),(4,_),(5,_)] ?_;refine WC.region (Go ?_);refine WL.ld rfl (by first | exact aa dx rfl | assumption) rfl rfl rfl ?_;refine WL.call (vs:=[_,_]) rfl Tryz.call122 rfl (jd (s:=4) (.inr (.inr rfl)) hu.1 hu.2 _ k6 (by simp [bn])) rfl rfl rfl ?_;rintro _ h7 ⟨v7,rfl,k7,ba,AH⟩;have qI:=ba.obj bX n3;refine WL.call (vs:=[_,_]) rfl Tryz.call131 rfl (AG m5) rfl rfl rfl ?_;rintro _ hz ⟨rfl,_⟩;subst hz;refine Go ?_;refine WL.ax (aB Tryz.sizeOf3 rfl rfl qI (Nat.le_of_ble_eq_true rfl) rfl rfl) rfl rfl ?_;rintro _ h8 ⟨bE,bz⟩;have soZ:=oz.trans AH;have kZ:=k7.ext bz (fun e=>n3 e.symm) (fun q hq e=>by have:=hv q (oz q (AH q hq));omega);have XZ:Ext (fun q=>q=b∨q=b3) h4 h8:=(((aM.mono fun _ _ e=>.inl e).trans (aN.mono fun _ _ e=>.inr e)).trans (ba.mono fun _ _ e=>.inl e)).trans (bz.mono fun _ _ e=>.inr e);obtain ⟨g,hg⟩:∃ g:Fm,g=⟨fk,0,[],p,[],.slice none 0 0,[],.slice none 0 0,[],.slice none 0 0,[],.slice none 0 0,[],mx⟩:=⟨_,rfl⟩;(have gC:h8[b3]?=some (.cells ⟨g.cells⟩ 42 (0,0)):=by subst hg;exact bE);(have gP:g.pl=PL:=by rw [hK,if_neg (by omega),if_neg (by omega),if_neg (by omega),if_pos (by omega)];subst hg;rfl);(have gO:g.ok h8:=by subst hg;exact ⟨⟨ej _,Nat.zero_le _⟩,⟨ej _,Nat.zero_le _⟩,⟨ej _,Nat.zero_le _⟩,fX _⟩);(have gA:∀ q,g.A q→h4.size≤q∧q ≠ b3∧q ≠ b2:=fun q hq=>(by subst hg;exact hq.elim (fun e=>by cases e) (fun e=>e.elim (fun e=>by cases e) (fun e=>e.elim (fun e=>by cases e) (fun e=>(je e).elim)))));refine Gn ?_)
 skip)
 all_goals try (
 refine aw 12 ?_
 refine G2 ?_;refine Gs [(2,_),(4,_),(5,_),(71,_)] ?_
 refine aH 13 14 (Hb.mk fun hb=>?_) (Hb.mk fun hb=>?_)
 all_goals try (
 refine aw 13 ?_
 refine WC.region ?_
 have C9:Sc h4 b v (t++[0]++[]):=by rw [hE,if_neg (by omega),if_neg (by omega),if_neg (by omega),if_neg (by omega),if_pos (by omega)] at uP;simpa using uP
 refine WL.step (ad rfl Tryz.underlying161 rfl Tryz.sizeOf158) rfl rfl rfl ?_;refine WL.ld rfl (by first | exact aa bJ rfl | assumption) rfl rfl rfl ?_
 refine WL.call (vs:=[_]) rfl Tryz.call128 rfl (fJ c3 C9 (by simp;omega)) rfl rfl rfl ?_
 rintro _ h5 ⟨v5,rfl,k5,aM,oz⟩
 have im:=aM.obj bC n3
 refine Go ?_;refine WL.ax (aB Tryz.sizeOf9 rfl rfl im (Nat.le_of_ble_eq_true rfl) rfl rfl) rfl rfl ?_
 rintro _ h6 ⟨bX,aN⟩
 have soZ:=oz
 have kZ:=k5.ext aN (fun e=>n3 e.symm) (fun q hq e=>by have:=hv q (oz q hq);omega)
 have XZ:Ext (fun q=>q=b∨q=b3) h4 h6:=(aM.mono fun _ _ e=>.inl e).trans (aN.mono fun _ _ e=>.inr e)
 obtain ⟨g,hg⟩:∃ g:Fm,g=⟨fk,0,[],[],t,.slice none 0 0,[],.slice none 0 0,[],.slice none 0 0,[],.slice none 0 0,[],0⟩:=⟨_,rfl⟩
 have gC:h6[b3]?=some (.cells ⟨g.cells⟩ 42 (0,0)):=by subst hg;exact bX
 have gP:g.pl=PL:=by rw [hK,if_neg (by omega),if_neg (by omega),if_neg (by omega),if_neg (by omega),if_pos (by omega)];subst hg;rfl
 have gO:g.ok h6:=by subst hg;exact ⟨⟨ej _,Nat.zero_le _⟩,⟨ej _,Nat.zero_le _⟩,⟨ej _,Nat.zero_le _⟩,fX _⟩
 have gA:∀ q,g.A q→h4.size≤q∧q ≠ b3∧q ≠ b2:=fun q hq=>(by subst hg;exact hq.elim (fun e=>by cases e) (fun e=>e.elim (fun e=>by cases e) (fun e=>e.elim (fun e=>by cases e) (fun e=>(je e).elim))))
 refine Gn ?_
 skip)
 all_goals try (
 refine aw 14 ?_
 refine WC.skip ?_
 skip)
 skip)
 skip)
 skip)
 skip)
 all_goals (refine Gn ?_;refine WC.sr ?_)
 all_goals (
  first
   | (have qq:=gP;clear qq)
   | (exfalso;omega)
   | (rw [hE,if_neg (by omega),if_neg (by omega),if_neg (by omega),if_neg (by omega),if_neg (by omega)] at uP
      have kZ:=uP
      have soZ:=SO.refl v
      have XZ:Ext (fun q=>q=b∨q=b3) h4 h4:=.refl _ _
      obtain ⟨g,hg⟩:∃ g:Fm,g=zF fk:=⟨_,rfl⟩
      have gC:h4[b3]?=some (.cells ⟨g.cells⟩ 42 (0,0)):=by subst hg;exact bC
      have gP:g.pl=PL:=by rw [hK,if_neg (by omega),if_neg (by omega),if_neg (by omega),if_neg (by omega),if_neg (by omega)];subst hg;rfl
      have gO:g.ok h4:=by subst hg;exact ⟨⟨ej _,Nat.zero_le _⟩,⟨ej _,Nat.zero_le _⟩,⟨ej _,Nat.zero_le _⟩,fX _⟩
      have gA:∀ q,g.A q→h4.size≤q∧q ≠ b3∧q ≠ b2:=fun q hq=>(by subst hg;exact hq.elim (fun e=>by cases e) (fun e=>e.elim (fun e=>by cases e) (fun e=>e.elim (fun e=>by cases e) (fun e=>(je e).elim))))))
 all_goals (refine WL.step (ay Tryz.isAgg42 Tryz.sizeOf42 rfl rfl (by exact At.av gC)) rfl rfl rfl ?_;refine WL.ax (al Tryz.sizeOf42 rfl rfl rfl (XZ.obj pQ (fun e=>e.elim (fun e=>n2 e) (fun e=>kR e))) rfl gO.one) rfl rfl ?_;rintro _ hZ ⟨hbZ,hxZ⟩;refine Gn ?_;refine WC.ret ?_;repeat' (with_reducible first | refine aZ ?_ | refine aV ?_))
 all_goals (refine cm _ ⟨⟨_,rfl,bB Tryz.isAgg42 Tryz.sizeOf42 hbZ rfl⟩,trivial⟩ ?_;exact ⟨g,_,rfl,gP,⟨⟨gO.1.1.ext' hxZ (fun q _ hq e=>(gA q (.inl hq)).2.2 e),gO.1.2⟩,⟨gO.2.1.ext' hxZ (fun q _ hq e=>(gA q (.inr (.inl hq))).2.2 e),gO.2.2⟩,⟨gO.3.1.ext' hxZ (fun q _ hq e=>(gA q (.inr (.inr (.inl hq)))).2.2 e),gO.3.2⟩,gO.4.ext hxZ (fun q hq e=>(gA q (.inr (.inr (.inr hq)))).2.2 e)⟩,fun q hq=>by have:=(gA q hq).1;omega,kZ.ext hxZ (fun e=>n2 e.symm) (fun q hq e=>by have:=hv q (soZ q hq);omega),(X4.mono (S':=fun q=>q=b) fun _ _ e=>e.elim).trans' ((XZ.mono (S':=fun q=>q=b∨q=b3∨q=b2) fun q _ e=>e.elim .inl (fun e=>.inr (.inl e))).trans (hxZ.mono fun q _ e=>.inr (.inr e))) (fun q hq e=>by rcases e with e | e | e;exact e;exact absurd e (by omega);exact absurd e (by omega))⟩)
theorem Ge {f g:Fm} (h:g.pl=f.pl) (w:f.vU):g.vU:=by
 simp only [Fm.pl,Prod.mk.injEq] at h
 obtain ⟨h1,h2,h3,h4,h5,h6,h7,h8,h9,iG⟩:=h
 have hl:=congrArg List.length h9
 rw [List.length_map,List.length_map] at hl
 refine ⟨h6▸w.oids,h7▸w.formats,h8▸w.results,by have:=w.params;omega,fun c hc=>?_,h3▸w.name,h4▸w.portal,h5▸w.text⟩
 obtain ⟨d,hd,e⟩:=List.mem_map.1 (show c.pl∈f.params.map aX.pl by rw [← h9];exact List.mem_map.2 ⟨c,hc,rfl⟩)
 have:=congrArg (fun x=>x.2.length) e
 have:=w.cells d hd
 simp only [aX.pl] at *
 omega
theorem Gf {f g:Fm} (h:g.pl=f.pl) (k:f.may):g.may:=by
 have hk:(dA g).pl=(dA f).pl:=by
   rw [nH,nH]
   simp only [Fm.pl,Prod.mk.injEq] at h
   obtain ⟨h1,h2,h3,h4,h5,h6,h7,h8,h9,iG⟩:=h
   rw [h1,h2,h3,h4,h5,h6,h7,h8,h9,iG]
 have ho:g.pl=(dA g).pl:=by rw [hk,h];exact k.own
 simp only [Fm.pl,Prod.mk.injEq] at h
 obtain ⟨h1,h2,h3,h4,h5,h6,h7,h8,h9,iG⟩:=h
 refine ⟨h1▸k.kind,h3▸k.name,h4▸k.portal,h5▸k.text,h6▸k.oids,h7▸k.formats,h8▸k.results,fun c hc=>?_,by rw [h1,h2];exact k.what,by rw [iG];exact k.max,ho⟩
 obtain ⟨d,hd,e⟩:=List.mem_map.1 (show c.pl∈f.params.map aX.pl by rw [← h9];exact List.mem_map.2 ⟨c,hc,rfl⟩)
 have:=k.params d hd
 simp only [aX.pl,Prod.mk.injEq] at e
 exact ⟨fun z=>by rw [← e.2];exact this.1 (by rw [e.1];exact z),by rw [← e.2];exact this.2⟩
theorem kD {f:Fm} (w:f.vU):(iq f).length≤30000:=by
 obtain ⟨DY,DZ,D0,xM,Ax,F2,F3,F4⟩:=w
 have l4:=nD xM Ax
 unfold iq
 repeat' split
 all_goals (simp [bn,cD];try omega)
theorem xv {h:ah} {w:Value} (l:List UInt8) (hr:Rd h w 1 l.length (bA l)) (hm:l.length≤1000000):ag Tryz.prog 94 ⟨[w]⟩ h fun u h'=>∃ b v,u=.pointer (some ⟨b,0,none⟩)∧Sc h' b v l∧Ext No h h'∧h.size≤b∧(∀ q,v.ownBlock=some q→h.size≤q)∧∀ q,v.ownBlock=some q→q < h'.size:=by
 refine calls [(0,_)] Tryz.func94 rfl Tryz.ntmps94 rfl ⟨rfl,trivial⟩ ?_
 refine G2 ?_;refine G2 ?_;refine WL.call (vs:=[_]) rfl Tryz.call127 rfl (jD l hr hm) rfl rfl rfl ?_
 rintro v1 h1 ⟨jM,az,ik⟩
 obtain ⟨A1,c1,rfl,_⟩:=id jM.slice
 refine WL.step (aF (vs:=[_,_]) (cs:=[_,_,_]) (fun | [a0,a2]=>[a0,(.bool false),a2] | _=>[]) rfl rfl (by kernel_rfl)) rfl rfl rfl ?_
 refine WL.aj (aG rfl) rfl rfl rfl ?_
 rintro _ h2 ⟨b2,rfl,gg,bH,aI⟩
 refine Go ?_;refine Gs [(2,_)] ?_;refine Gt ?_
 exact ⟨b2,_,rfl,⟨bH,(jM.ext aI (fun _ _=>aO)).rd,fun q hq e=>by have:=jM.lt hq;omega⟩,az.trans aI,by have:=az.size;omega,ik,fun q hq=>by have:=jM.lt hq;have:=aI.size;omega⟩
theorem xw {h:ah} {v:Value} (f:Fm) (w:f.vU) (k:f.may) (hr:Rd h v 1 (iq f).length (bA (iq f))) :
   ag Tryz.prog 56 ⟨[.agg ⟨[.int .u8 f.kind,v]⟩]⟩ h fun u h'=>∃ g:Fm,u=.tuple ⟨[.agg ⟨g.cells⟩,In 0]⟩∧g.pl=f.pl∧g.ok h'∧(∀ q,g.A q→h.size≤q)∧Ext No h h':=by
 have hkno:=fun {g:ah}=>sK (g:=g) k.kind
 have hrd:=fun (g:ah) (b:Nat) (v:Value) (sc:Sc g b v (iq f))=>C8 f w k sc
 have hck:=fun (h:ah) (g:Fm) (hg:g.ok h) (e:g.pl=f.pl)=>AF g hg (Ge e w) (Gf e k)
 have hln:=kD w
 obtain ⟨A,c,rfl,_⟩:=id hr
 refine calls [(0,_)] Tryz.func56 rfl Tryz.ntmps56 rfl ⟨rfl,trivial⟩ ?_
 refine WC.sr ?_;refine WL.aj (aG rfl) rfl rfl rfl ?_
 rintro _ h1 ⟨b1,rfl,bR,aR,az⟩
 refine WL.aj (an (fun w=>Tryz.zeroValue42 w)) rfl rfl rfl ?_
 rintro _ h2 ⟨b2,rfl,gg,bH,aI⟩
 have bT:=aI.obj aR aO
 have X2:=az.trans aI
 refine Go ?_;refine G3 ?_;refine WL.ld rfl (by first | exact aa bT rfl | assumption) rfl rfl rfl ?_
 refine WL.call (vs:=[_]) rfl Tryz.call93 rfl (hkno) rfl rfl rfl ?_
 rintro _ h3 ⟨rfl,aQ⟩
 have cw:=aQ.obj bT aO
 have mg:=aQ.obj bH aO
 have X3:=X2.trans aQ
 refine Gn ?_;refine Gs [(1,_),(2,_),(8,_)] ?_;refine WC.block ?_;refine G2 ?_
 refine aH 1 2 ?_ TT.mk
 all_goals (refine aw 2 ?_)
 refine G2 ?_;refine Gs [(1,_),(2,_),(12,_)] ?_
 refine aH 3 4 ?_ TT.mk
 all_goals (refine aw 4 ?_)
 refine WC.skip ?_;refine Gn ?_;refine G2 ?_;refine WL.ld rfl (by first | exact aa cw rfl | assumption) rfl rfl rfl ?_
 refine WL.call (vs:=[_]) rfl Tryz.call94 rfl (xv _ (hr.aq X3) (by omega)) rfl rfl rfl ?_
 rintro _ h4 ⟨sb,sv,rfl,uP,aW,oG,r8,rD⟩
 have bJ:=aW.obj cw aO
 have pQ:=aW.obj mg aO
 have l4:=ai uP.bm
 refine WL.step (aF (vs:=[_]) (cs:=[_]) (fun | [a0]=>[a0] | _=>[]) rfl rfl (by kernel_rfl)) rfl rfl rfl ?_
 refine WL.aj (an (fun w=>Tryz.zeroValue161 w)) rfl rfl rfl ?_
 rintro _ h5 ⟨b5,rfl,qR,bV,aM⟩
 refine WL.ax (al Tryz.sizeOf161 rfl rfl rfl (by assumption) rfl (by simp [Value.oneCell'])) rfl rfl ?_
 rintro _ h6 ⟨bX,aN⟩
 have FP:Ext No h4 h6:=aM.trans' aN (fun q hq e=>by omega)
 have dx:=FP.obj bJ aO
 have kU:=FP.obj pQ aO
 have NJ:=uP.ext FP aO (fun _ _=>aO)
 have s6:=FP.size
 have Pa:b2 ≠ b5:=by have:=ai pQ;omega
 have Pb:b1 ≠ sb:=by have:=ai cw;omega
 have NK:b2 ≠ sb:=by have:=ai mg;omega
 have NL:b5 ≠ sb:=by omega
 refine Gn ?_;refine Gs [(1,_),(2,_),(4,_)] ?_;refine WC.sr ?_;refine WL.step (ay Tryz.isAgg161 Tryz.sizeOf161 rfl rfl (by exact At.av bX)) rfl rfl rfl (Go ?_)
 refine WL.ld rfl (by first | exact aa dx rfl | assumption) rfl rfl rfl ?_
 refine WL.call (vs:=[_,_]) rfl Tryz.call95 rfl (hrd _ _ _ NJ (fun q hq=>by have:=rD q hq;omega)) rfl rfl rfl ?_
 rintro _ h7 ⟨g,v7,rfl,gP,gO,gA,NM,ba⟩
 have ED:=ba.obj kU NK
 have EE:=ba.obj bX NL
 refine WL.aj (an (fun w=>Tryz.zeroValue42 w)) rfl rfl rfl ?_
 rintro _ h8 ⟨b8,rfl,EB,bE,bz⟩
 refine WL.ax (al Tryz.sizeOf42 rfl rfl rfl (by assumption) rfl gO.one) rfl rfl ?_
 rintro _ h9 ⟨bY,bZ⟩
 have Ix:Ext No h7 h9:=bz.trans' bZ (fun q hq e=>by omega)
 have KN:=Ix.obj ED aO
 have EZ:=Ix.obj EE aO
 have NN:=NM.ext Ix aO (fun _ _=>aO)
 have L5:=gO.aq Ix
 refine Gn ?_;refine Gs [(2,_),(4,_),(5,_)] ?_;refine G3 ?_;refine WL.ld rfl (by first | exact aa EZ rfl | assumption) rfl rfl rfl ?_
 refine WL.call (vs:=[_]) rfl Tryz.call96 rfl (vt NN) rfl rfl rfl ?_
 rintro _ hq ⟨rfl,hz⟩
 replace hz:=hz.symm
 subst hz
 refine Go ?_
 refine bK 27 ?_ TT.mk
 refine WL.step (ay Tryz.isAgg42 Tryz.sizeOf42 rfl rfl (by exact At.av bY)) rfl rfl rfl ?_
 refine WL.call (vs:=[_]) rfl Tryz.call97 rfl (hck _ g L5 gP) rfl rfl rfl ?_
 rintro _ iG ⟨rfl,ct⟩
 have Iy:=ct.obj bY aO
 have Iz:=ct.obj KN aO
 have sM:=L5.aq ct
 refine Gg ?_;refine Go ?_;refine Gs [(2,_),(5,_),(31,_)] ?_
 refine aH 5 6 ?_ TT.mk
 all_goals (refine aw 6 ?_)
 refine WC.skip ?_;refine Gn ?_;refine WC.sr ?_;refine WL.step (ay Tryz.isAgg42 Tryz.sizeOf42 rfl rfl (by exact At.av Iy)) rfl rfl rfl ?_
 refine WL.ax (al Tryz.sizeOf42 rfl rfl rfl Iz rfl sM.one) rfl rfl ?_
 rintro _ qh ⟨oA,cM⟩
 refine Go ?_;refine WC.ret ?_
 repeat' (with_reducible first | refine aZ ?_ | refine aV ?_)
 refine cV _ _ ⟨⟨_,rfl,bB Tryz.isAgg42 Tryz.sizeOf42 oA rfl⟩,rfl,trivial⟩ ?_
 have X7:Ext (fun q=>q=sb) h6 h7:=ba
 have DU:Ext No h h6:=(X3.trans aW).trans FP
 have yr:Ext No h iG:=(DU.trans' ba (fun q hq e=>by have:=X3.size;omega)).trans (Ix.trans ct)
 have hlt:∀ q,g.A q→q ≠ b2:=fun q hq e=>by have:=gA q hq;have:=ai kU;omega
 exact ⟨g,rfl,gP,⟨⟨sM.1.1.ext' cM (fun q _ hq e=>hlt q (.inl hq) e),sM.1.2⟩,⟨sM.2.1.ext' cM (fun q _ hq e=>hlt q (.inr (.inl hq)) e),sM.2.2⟩,⟨sM.3.1.ext' cM (fun q _ hq e=>hlt q (.inr (.inr (.inl hq))) e),sM.3.2⟩,sM.4.ext cM (fun q hq e=>hlt q (.inr (.inr (.inr hq))) e)⟩,fun q hq=>by have:=gA q hq;have:=DU.size;omega,yr.trans' cM (fun q hq e=>by have:=az.size;omega)⟩
theorem pk {k:Int} (h:0 < k∧k≤255):By (UInt8.ofNat k.toNat)=.int .u8 k:=JP (by omega) h.2
theorem AJ {h:ah} {b:Nat} {v:Value} {k:Int} {m r:List UInt8} (kf:Fw h b true v (iv k m++r)) (hk:0 < k∧k≤255) (hm:m.length≤60000) (hr:r.length≤100000) :
   ag Tryz.prog 53 ⟨[.pointer (some ⟨b,0,none⟩)]⟩ h fun u h'=>∃ w v',u=.tuple ⟨[.agg ⟨[.int .u8 k,w]⟩,.bool true,In 0]⟩∧Own h' w 5 1 m.length (bA m)∧Fw h' b true v' r∧Ext (fun q=>q=b∨v.ownBlock=some q) h h'∧(∀ q,w.ownBlock=some q→h.size≤q)∧v'.ownBlock=v.ownBlock:=by
 have hbl:(be (4+(m.length:Int)) 4).length=4:=bn ..
 have e1:(iv k m++r).drop 1=be (4+(m.length:Int)) 4++(m++r):=by simp [iv]
 have e2:((iv k m++r).drop 1).take 4=be (4+(m.length:Int)) 4:=by rw [e1,List.take_append_of_le_length (by omega),List.take_of_length_le (by omega)]
 have e3:(iv k m++r).drop (1+4)=m++r:=by rw [← List.drop_drop,e1];exact List.drop_left' hbl
 have e4:((iv k m++r).drop (1+4)).take (4+m.length - 4)=m:=by rw [e3,Nat.add_sub_cancel_left,List.take_left]
 have e5:(iv k m++r).drop (1+(4+m.length))=r:=by rw [← Nat.add_assoc,← List.drop_drop,e3,List.drop_left]
 have hn:ij (be (4+(m.length:Int)) 4)=((4+m.length:Nat):Int):=by rw [qF (by omega) (by show _ < (4294967296:Int);omega)];omega
 refine (vq kf 1 (4+m.length) rfl (by rw [e2];exact hn) ⟨by omega,by omega⟩ (by rw [List.length_append,hY];omega) (by rw [List.length_append,hY];omega)).mono fun u h' ⟨w,v',hu,ho,kf',hx,hf,hv⟩=>?_
 rw [e4,Nat.add_sub_cancel_left] at ho
 rw [e5] at kf'
 refine ⟨w,v',?_,ho,kf',hx,hf,hv⟩
 rw [hu,show rG true (iv k m++r)=UInt8.ofNat k.toNat by simp [rG,iv],pk hk]
theorem Dc {f g:Fm} (e:g.pl=f.pl):g.p=f.p:=by
 simp only [Fm.pl,Prod.mk.injEq] at e
 simp only [Fm.p,e]
theorem Fm.NO {f:Fm} {q:Nat} (h:f.F q):f.A q:=h.elim (fun h=>.inl h.2) (fun h=>.inr (.inr (.inr h)))
theorem AK {h0 h:ah} {b:Nat} {s:SP} {r:List UInt8} {O:List (Int × List UInt8)} {n:Nat} (f:Fm) (k:qA h0 h b s true (iv f.kind (iq f)++r) O) (ho:s.ov=false) (w:f.vU) (fm:f.may) (er:Er h) (xx:0 < h0.size) (lm:dP n s) (hn:n < 1000000) (fl:∀ g:Fm,g.pl=f.pl→gG g)
   (hm:∀ p∈(iw s f.p).2,jh p) (hO:O.length+(iw s f.p).2.length≤10000) (hr:r.length≤100000) :
   ag Tryz.prog 26 ⟨[.pointer (some ⟨b,0,none⟩)]⟩ h fun u h'=>(∃ g:Fm,g.pl=f.pl∧(∀ v∈g.cells,v.oneCell'=true)∧u=.tuple ⟨[.agg ⟨g.cells⟩,.bool true]⟩)∧qA h0 h' b (iw s f.p).1 true r (O++(iw s f.p).2.flatMap eE)∧Ext (sF h0) h h':=by
 obtain ⟨fb,A,v,w0,M,k,e⟩:=k
 have hs:=k.bm
 rw [ho] at hs
 have hMO:M.length=O.length:=by rw [← e,List.length_map]
 have kr:=fun (g:ah) (hb:g[b]?=some (.cells ⟨lR w0 (.pointer (some ⟨fb,0,none⟩)) (.pointer (some ⟨A.bs,0,none⟩)) (.slice none 0 0) (In 0) true false⟩ 96 (0,0)))=>dV hb
 have hml:=kD w
 have kn:=fun (g:ah) (k:Fw g fb true v (iv f.kind (iq f)++r))=>AJ k (nE fm.kind) (by omega) hr
 have lb:=ai hs
 have lf:=ai k.fw.bm
 have x0:=k.x0
 have hvl:∀ q,v.ownBlock=some q→q < h.size:=fun q hq=>k.fw.own.lt hq
 have hwl:=k.sd.lt
 have nvb:v.ownBlock ≠ some b:=bQ k.fw.own hs (by decide)
 have hzz:∀ q,(q=fb∨v.ownBlock=some q)→A.z q:=fun q e=>(k.z q).2 (e.elim (fun e=>.inr (.inl e)) (fun e=>.inr (.inr (.inl e))))
 refine calls [(0,_)] Tryz.func26 rfl Tryz.ntmps26 rfl ⟨rfl,trivial⟩ ?_
 refine WC.sr ?_;refine WL.aj (an (fun w=>Tryz.zeroValue42 w)) rfl rfl rfl ?_
 rintro _ h1 ⟨b1,rfl,bR,aR,az⟩
 have fT:=az.obj hs aO
 have k1:=k.aq az
 refine Go ?_;refine G3 ?_;refine WL.call (vs:=[_]) rfl Tryz.call51 rfl (kr _ fT) rfl rfl rfl ?_
 rintro _ hq ⟨rfl,hz⟩
 replace hz:=hz.symm
 subst hz
 refine Go ?_
 refine bK 11 ?_ TT.mk
 refine Gg ?_;refine WL.step (ae rfl) rfl rfl rfl ?_;refine Gg ?_;refine WL.ld rfl (by first | exact aa fT rfl | assumption) rfl rfl rfl (Go ?_)
 refine Gs [(0,_),(2,_),(16,_)] ?_
 refine aH 1 2 ?_ TT.mk
 all_goals (refine aw 2 ?_)
 refine WC.skip ?_;refine Gn ?_;refine G2 ?_;refine WL.step (ae rfl) rfl rfl rfl (Go ?_);refine WL.ld rfl (by first | exact aa fT rfl | assumption) rfl rfl rfl ?_
 refine WL.call (vs:=[_]) rfl Tryz.call53 rfl (kn _ k1.fw) rfl rfl rfl ?_
 rintro _ h2 ⟨w2,v2,rfl,dc,Bt,aI,eI,Ed⟩
 obtain ⟨A2,c2,rfl,_⟩:=id dc.slice
 have pz:=aI.obj fT (fun e=>e.elim k.vR nvb)
 have bT:=aI.obj aR (fun e=>by rcases e with e | e;omega;have:=hvl _ e;omega)
 refine Go ?_;refine WL.aj (an (fun w=>Tryz.zeroValue53 w)) rfl rfl rfl ?_
 rintro _ h3 ⟨b4,rfl,oG,bC,aQ⟩
 refine WL.ax (al Tryz.sizeOf53 rfl rfl rfl bC rfl (by simp [Value.oneCell'])) rfl rfl ?_
 rintro _ h4 ⟨gj,aW⟩
 have ta:Ext No h2 h4:=aQ.trans' aW (fun q hq e=>by omega)
 have wz:=ta.obj pz aO
 have Bw:=Bt.aq ta
 have fP:=dc.ext ta (fun _ _=>aO)
 have bJ:=ta.obj bT aO
 have X4:Ext (fun q=>q=fb∨v.ownBlock=some q) h h4:=((az.mono fun _ _ e=>e.elim).trans aI).trans (ta.mono fun _ _ e=>e.elim)
 have l4:=X4.size
 have l1:=az.size
 have Nd:=ai bJ
 have NP:nU h0 h4 { A with z:=fun q=>A.z q∨q=b1 } s:=k.se.FW X4 (fun q e=>k.H4 q (hzz q e)) (fun q hq=>hq.elim (fun z=>⟨.inl z,by obtain ⟨_,_,ks,_⟩:=k.se;have:=ks.zz.s q z;omega⟩) (fun z=>⟨.inr (by omega),by omega⟩)) x0
 have hfb:=k.fw.bm
 have KO:=k.sd.ext X4 (fun q hq e=>e.elim (fun e=>(k.sd.off hfb (by decide) (by decide)).1 (e▸hq)) (fun e=>by obtain ⟨_,a1⟩:=bO k.sd.row hq;obtain ⟨_,a2⟩:=bO k.fw.own e;rw [a1] at a2;simp at a2)) (fun y hy q hq e=>e.elim (fun e=>(k.sd.off hfb (by decide) (by decide)).2 y hy (e▸hq)) (k.nv y hy q hq))
 refine Go ?_;refine Gs [(0,_),(2,_),(4,_),(5,_),(6,_)] ?_;refine WC.seq ?_;refine WC.block ?_;refine G2 ?_
 refine aH 3 4 ?_ TT.mk
 all_goals (refine aw 4 ?_)
 refine G2 ?_;refine Gs [(0,_),(2,_),(4,_),(34,_)] ?_
 refine aH 5 6 ?_ TT.mk
 all_goals (refine aw 6 ?_)
 refine G2 ?_;refine WL.step (ae rfl) rfl rfl rfl (Go ?_);refine WL.ld rfl (by first | exact aa wz rfl | assumption) rfl rfl rfl (Go ?_)
 refine Gs [(0,_),(2,_),(4,_),(38,_)] ?_
 refine aH 7 8 ?_ TT.mk
 all_goals (refine aw 8 ?_)
 refine WC.skip ?_;refine Gn ?_;refine WC.sr ?_;refine WL.step (ay Tryz.isAgg53 Tryz.sizeOf53 rfl rfl (by exact At.av gj)) rfl rfl rfl ?_
 refine WL.call (vs:=[_]) rfl Tryz.call56 rfl (xw f w fm fP.rd) rfl rfl rfl ?_
 rintro _ h5 ⟨g,rfl,gp,gO,gA,aM⟩
 refine Go ?_;refine WL.aj (an (fun w=>Tryz.zeroValue42 w)) rfl rfl rfl ?_
 rintro _ h6 ⟨b7,rfl,xG,ca,aN⟩
 refine WL.ax (al Tryz.sizeOf42 rfl rfl rfl ca rfl gO.one) rfl rfl ?_
 rintro _ h7 ⟨sN,ba⟩
 have L7:Ext No h5 h7:=aN.trans' ba (fun q hq e=>by omega)
 have ns:Ext No h4 h7:=aM.trans L7
 have Bx:=ns.obj wz aO
 have NQ:=gO.aq L7
 have l5:=aM.size
 have l7:=ns.size
 have NR:Er h7:=(er.ext X4 (fun e=>by have:=k.lo 0 (hzz 0 e);omega)).aq ns
 refine Go ?_;refine Gs [(0,_),(2,_),(6,_),(7,_)] ?_;refine G3 ?_
 refine aH 9 10 ?_ TT.mk
 all_goals (refine aw 10 ?_)
 refine WC.skip ?_;refine Gn ?_;refine WC.seq ?_;refine WC.bW (fun h'=>(∃ w,h'[b]?=some (.cells ⟨lR w (.pointer (some ⟨fb,0,none⟩)) (.pointer (some ⟨A.bs,0,none⟩)) (.slice none 0 0) (In 0) true false⟩ 96 (0,0)))∧h'[b7]?=some (.cells ⟨g.cells⟩ 42 (0,0))) 8 8 rfl dm ?_
 refine WH.tk 0 rfl (fun hq hC=>ak rfl) rfl rfl rfl ?_ (hC:=(by first | exact ⟨⟨_,Bx⟩,sN⟩ | assumption))
 refine WH.tk 1 rfl (fun hq hC=>ak rfl) rfl rfl rfl ?_ (hC:=(by first | exact ⟨⟨_,Bx⟩,sN⟩ | assumption))
 refine WH.tk 2 rfl (fun hq hC=>ae rfl) rfl rfl rfl ?_ (hC:=(by first | exact ⟨⟨_,Bx⟩,sN⟩ | assumption))
 refine WH.tk 3 rfl (fun hq hC=>ad rfl Tryz.underlying96 rfl Tryz.sizeOf90) rfl rfl rfl ?_ (hC:=(by first | exact ⟨⟨_,Bx⟩,sN⟩ | assumption))
 refine WH.tk 4 rfl (fun hq hC=>aA Tryz.isAgg90 rfl ((by obtain ⟨⟨w,e⟩,_⟩:=hC;exact aa e rfl))) rfl rfl rfl ?_ (hC:=(by first | exact ⟨⟨_,Bx⟩,sN⟩ | assumption))
 refine WH.tk 5 rfl (fun hq hC=>ay Tryz.isAgg42 Tryz.sizeOf42 rfl rfl (by exact At.av hC.2)) rfl rfl rfl ?_ (hC:=(by first | exact ⟨⟨_,Bx⟩,sN⟩ | assumption))
 refine WH.one 6 (by kernel_rfl) ?_
 refine aC.call (vs:=[_,_]) rfl rfl Tryz.call58 rfl (KD NP lm hn NR xx ns (by omega) g NQ (fun q hq=>gA q (Fm.NO hq)) (fl g gp)) rfl rfl rfl ?_ (fun _=>by kernel_rfl)
 rintro v8 h8 ⟨⟨B,Ou,hB⟩,KP,bz⟩
 have vQ:=bz.obj Bx (fun e=>by have:=e.2 _ _ Bx;revert this;decide)
 have jH:=bz.obj sN (fun e=>by have:=e.2 _ _ sN;revert this;decide)
 refine ⟨fun _=>⟨⟨_,vQ⟩,jH⟩,?_⟩
 rw [Dc gp] at hB KP
 have l8:=bz.size
 have Jg:=(KO.aq ns).ext bz (fun q hq e=>uJ (KO.aq ns).row (by decide) q hq e) (fun y hy q hq e=>uJ ((KO.aq ns).bod y hy) (by decide) q hq e)
 have hBl:B.length=(iw s f.p).2.length:=by rw [← hB,List.length_map]
 refine WH.one 7 (by kernel_rfl) ?_
 refine aC.call (vs:=[_,_]) rfl rfl Tryz.call57 rfl (DX B Ou.own.rd vQ Jg (by omega) (fun q hq=>⟨by have:=Ou.vf q hq;omega,fun e=>by have:=Ou.vf q hq;have:=hwl.1 q e;omega⟩) (fun y hy=>(Ou.ok y hy).one) (fun y hy g x=>vP y ((Ou.ok y hy).ext x (fun q hq e=>by have:=Ou.bf y hy q hq;exact e.elim (fun e=>by omega) (fun e=>by have:=hwl.1 q e;omega))) (hm _ (hB▸List.mem_map_of_mem hy)))) rfl rfl rfl ?_ (fun _=>by kernel_rfl)
 rintro _ h9 ⟨w9,M9,NS,uG,Jh,bZ,wa,KQ⟩
 have IA:=bZ.obj jH (fun e=>e.elim (fun e=>by omega) (fun e=>by have:=hwl.1 _ e;omega))
 refine ⟨fun _=>⟨⟨_,uG⟩,IA⟩,?_⟩
 have NT:=uG
 have NU:∀ q,(q=b∨w0.ownBlock=some q)→({ A with z:=fun q=>A.z q∨q=b1 }:Ad).z q∧FV h8 q:=fun q e=>⟨.inl ((k.z q).2 (e.elim .inl (fun e=>.inr (.inr (.inr e))))),e.elim (fun e=>by subst e;exact ⟨_,_,vQ,by decide,by decide,by decide,by decide⟩) (fun e=>qB Jg.row (by decide) q e)⟩
 have L8:nU h0 h9 { A with z:=fun q=>(A.z q∨q=b1)∨w9.ownBlock=some q } (iw s f.p).1:=KP.FW bZ NU (fun q hq=>hq.elim (fun z=>⟨.inl z,by obtain ⟨_,_,ks,_⟩:=KP;have:=ks.zz.s q z;have:=bZ.size;omega⟩) (fun z=>⟨(wa q z).imp (fun y=>.inl ((k.z q).2 (.inr (.inr (.inr y))))) id,Jh.lt.1 q z⟩)) (by omega)
 have FU:=(Bw.aq ns).ext bz (fun e=>by have:=e.2 _ _ (Bw.aq ns).bm;revert this;decide) (fun q hq e=>uJ (Bw.aq ns).own (by decide) q hq e)
 have Jb:=FU.ext bZ (fun e=>e.elim (fun e=>k.vR e.symm) (fun e=>(Jg.off FU.bm (by decide) (by decide)).1 e)) (fun q hq e=>e.elim (fun e=>bQ FU.own vQ (by decide) (e▸hq)) (fun e=>by obtain ⟨_,a1⟩:=bO Jg.row e;obtain ⟨_,a2⟩:=bO FU.own hq;rw [a1] at a2;simp at a2))
 refine WH.done (by kernel_rfl) ?_
 refine Gn ?_;refine Gs [(0,_),(2,_),(7,_)] ?_;refine G2 ?_;refine WL.step (ae rfl) rfl rfl rfl (Go ?_);refine WL.ld rfl (by first | exact aa uG rfl | assumption) rfl rfl rfl ?_
 refine WL.call (vs:=[_]) rfl Tryz.call59 rfl (ES L8.bm) rfl rfl rfl ?_
 rintro _ hq ⟨rfl,hz⟩
 replace hz:=hz.symm
 subst hz
 refine WL.step (ae rfl) rfl rfl rfl (Go ?_);refine WL.ax (aB Tryz.sizeOf4 rfl rfl uG (Nat.le_of_ble_eq_true rfl) rfl rfl) rfl rfl ?_
 rintro _ iG ⟨KR,ct⟩
 have IB:=ct.obj IA (fun e=>by omega)
 have nI:=ct.obj (bZ.obj (bz.obj (ns.obj bJ aO) (fun e=>by have:=e.2 _ _ (ns.obj bJ aO);revert this;decide)) (fun e=>e.elim (fun e=>by omega) (fun e=>by have:=hwl.1 _ e;omega))) (fun e=>by omega)
 refine Gn ?_;refine Gs [(2,_),(7,_)] ?_;refine WC.sr ?_;refine WL.step (ay Tryz.isAgg42 Tryz.sizeOf42 rfl rfl (by exact At.av IB)) rfl rfl rfl ?_
 refine WL.ax (al Tryz.sizeOf42 rfl rfl rfl nI rfl gO.one) rfl rfl ?_
 rintro _ qh ⟨oA,cM⟩
 have l9:=bZ.size
 have Pc:=ct.size
 have Pd:=cM.size
 have bl:=k.lo b ((k.z b).2 (.inl rfl))
 have NV:¬ b=b1:=fun e=>by omega
 have KS:=Jb.ext ct (fun e=>k.vR e.symm) (fun q hq e=>bQ Jb.own uG (by decide) (e▸hq))
 have KT:=KS.ext cM (fun e=>by omega) (fun q hq e=>by rw [Ed] at hq;have:=hvl q hq;omega)
 have Gh:=Jh.ext ct (fun q hq e=>(Jh.off uG (by decide) (by decide)).1 (e▸hq)) (fun y hy q hq e=>(Jh.off uG (by decide) (by decide)).2 y hy (e▸hq))
 have IC:=Gh.ext cM (fun q hq e=>(Gh.off nI (by decide) (by decide)).1 (e▸hq)) (fun y hy q hq e=>(Gh.off nI (by decide) (by decide)).2 y hy (e▸hq))
 have KU:=L8.xq ct (fun q e=>by subst e;exact ⟨.inl (.inl ((k.z _).2 (.inl rfl))),_,_,uG,by decide,by decide,by decide,by decide⟩)
 have KV:nU h0 qh { A with z:=fun q=>q=b∨q=fb∨v2.ownBlock=some q∨w9.ownBlock=some q } (iw s f.p).1:=KU.FW cM (fun q e=>by subst e;exact ⟨.inl (.inr rfl),_,_,nI,by decide,by decide,by decide,by decide⟩) (fun q hq=>by
  rcases hq with hq | hq | hq | hq
  · exact ⟨.inl (.inl (.inl ((k.z q).2 (.inl hq)))),by omega⟩
  · exact ⟨.inl (.inl (.inl ((k.z q).2 (.inr (.inl hq))))),by omega⟩
  · rw [Ed] at hq;exact ⟨.inl (.inl (.inl ((k.z q).2 (.inr (.inr (.inl hq)))))),by have:=hvl q hq;omega⟩
  · exact ⟨.inl (.inr hq),by have:=IC.lt.1 q hq;omega⟩) (by omega)
 have FT:Ext (sF h0) h qh:=((((X4.mono fun q _ e=>k.lo q (hzz q e)).trans (ns.mono fun _ _ e=>e.elim)).trans (bz.mono fun _ _ e=>e.1)).trans (bZ.mono fun q _ e=>k.lo q ((k.z q).2 (e.elim .inl fun e=>.inr (.inr (.inr e)))))).trans ((ct.mono fun _ _ e=>by subst e;exact bl).trans (cM.mono fun _ _ e=>by subst e;show h0.size≤_;omega))
 refine Go ?_;refine WC.ret ?_
 repeat' (with_reducible first | refine aZ ?_ | refine aV ?_)
 refine cV _ _ ⟨⟨_,rfl,bB Tryz.isAgg42 Tryz.sizeOf42 (by assumption) rfl⟩,rfl,trivial⟩ ?_
 exact ⟨⟨g,gp,gO.one,rfl⟩,⟨fb,{ A with z:=fun q=>q=b∨q=fb∨v2.ownBlock=some q∨w9.ownBlock=some q },v2,w9,M9,⟨cM.obj KR NV,KT,KV,IC,fun x hx q hq e=>by rw [Ed] at e;exact (KQ x hx).elim (fun y=>k.nv x y q hq e) (fun y=>by have:=y q hq;have:=hvl q e;omega),fun q=>Iff.rfl,by omega⟩,by rw [NS,e,← hB,List.flatMap_map]⟩,FT⟩
theorem sO {h:ah} {A:Option Addr} {n c:Nat} {xs:List Value} (ho:Own h (.slice A n c) 53 2 n xs) (hn:0 < n) (hone:∀ v∈xs,v.oneCell'=true) (hm:n≤1000000) :
   ag Tryz.prog 60 ⟨[.slice A n c,In 0,In 1]⟩ h fun u h'=>Own h' u 53 2 (n - 1) (xs.drop 2)∧Ext (fun b=>(Value.slice A n c).ownBlock=some b) h h'∧u.ownBlock=(Value.slice A n c).ownBlock:=by
 obtain ⟨b,c',cs,hv,hb,hnc,hcm,hcl,hct⟩:=ho.block (by omega)
 simp only [Value.slice.injEq] at hv
 obtain ⟨rfl,_,rfl⟩:=hv
 have hcm':=hcm
 unfold maxLen at hcm
 have hxl:xs.length=n * 2:=ho.1
 have hrd:=ho.rd.drop (l:=1) (by omega)
 refine calls [(0,_),(1,_),(2,_)] Tryz.func60 rfl Tryz.ntmps60 rfl ⟨rfl,rfl,rfl,trivial⟩ ?_
 refine G2 ?_;refine G2 ?_;refine WL.step (j0 Tryz.underlying94 Tryz.sizeOf53 rfl rfl rfl rfl (by omega)) rfl rfl rfl ?_
 refine Gn ?_;refine Gs [(0,_),(1,_),(2,_)] ?_;refine G3 ?_
 refine aH 1 2 ?_ TT.mk
 all_goals (refine aw 2 ?_)
 refine WC.skip ?_;refine Gn ?_;refine G2 ?_;refine Gs [(0,_),(1,_),(2,_),(7,_)] ?_;refine WC.seq ?_;refine WC.jl 6 dm (by kernel_rfl) ?_
 show WS _ _ _ [_,_,_,_,_,_] _ _ _
 refine WS.step (ak rfl) rfl rfl rfl ?_;refine WS.step (ak rfl) rfl rfl rfl ?_;refine WS.step (jy Tryz.underlying94 Tryz.sizeOf53 rfl rfl (by omega)) rfl rfl rfl ?_
 refine WS.step (ak rfl) rfl rfl rfl ?_;refine WS.step (ak rfl) rfl rfl rfl ?_;refine WS.step (qY Tryz.underlying94 Tryz.sizeOf53 rfl rfl (by omega)) rfl rfl rfl ?_
 refine WS.nil ?_
 show WL _ _ _ [_,_] _ _ _
 refine WL.aj (lJ (sz:=2) rfl Tryz.underlying94 (show Tryz.prog.info? 53=some Tryz.t53 by kernel_rfl) rfl rfl rfl hb (by omega) hrd (fun v hv=>hone v (List.mem_of_mem_drop hv)) (by omega)) rfl rfl rfl ?_
 rintro _ h2 ⟨rfl,bH,aI⟩
 simp only [Int.toNat_zero,List.take_zero,List.nil_append,Nat.zero_add,Nat.zero_mul,Nat.one_mul] at bH
 have e5:(List.drop 2 xs).length=(n - 1) * 2:=by rw [List.length_drop,hxl];omega
 have e6:(List.drop 2 xs++List.drop ((n - 1) * 2) cs).length=c * 2:=by rw [List.length_append,e5,List.length_drop,hcl];omega
 refine WL.step (aP rfl) rfl rfl rfl ?_;refine WL.nil ?_;refine Gn ?_;refine Gs [(0,_),(7,_)] ?_;refine G2 ?_;refine WL.step (cW Tryz.underlying94 Tryz.sizeOf53 rfl rfl rfl (by omega)) rfl rfl rfl ?_
 refine WL.ax (oE rfl Tryz.underlying94 (fun w=>Tryz.zeroValue53 w) rfl (by first | rfl | assumption | exact (if_neg (by omega)).trans (congrArg some (Addr.add_lit _ _ _))) (by omega) bH (by show 0+_ * 2+_ * 2≤_;simp only [List.length_append,List.length_drop,hxl,hcl,Int.toNat_zero];omega) (by simp [Value.cells,Value.oneCell'])) rfl rfl ?_
 rintro _ h3 ⟨Mt,bq,wB,G8,aQ⟩
 refine Gn ?_;refine Gs [(0,_)] ?_;refine G2 ?_;refine Gt ?_
 rw [e6] at wB
 refine ⟨?_,(aI.trans aQ).mono (fun q _ e=>by simp [e,Value.ownBlock]),rfl⟩
 simp only [Int.toNat_zero,Nat.zero_add] at G8 ⊢
 exact Own.av (c:=c) bq (by omega) hcm' (by rw [wB]) (by rw [G8 _ (by show _≤(n - 1) * 2;omega),List.take_append_of_le_length (by omega),List.take_of_length_le (by omega)])
theorem kE {h:ah} {b fb n:Nat} {w s p i v:Value} {k:Int} {bg ov:Bool} {xs:List Value} (hb:h[b]?=some (.cells ⟨lR w (.pointer (some ⟨fb,0,none⟩)) s p i bg ov⟩ 96 (0,0))) (ho:Own h w 53 2 (n+1) (.int .u8 k :: v :: xs)) (hv:v.oneCell'=true) (hone:∀ v∈xs,v.oneCell'=true) (hm:n≤900000) :
   ag Tryz.prog 27 ⟨[.pointer (some ⟨b,0,none⟩)]⟩ h fun u h'=>u=.tuple ⟨[.agg ⟨[.int .u8 k,v]⟩,.bool true]⟩∧∃ w',h'[b]?=some (.cells ⟨lR w' (.pointer (some ⟨fb,0,none⟩)) s p i bg ov⟩ 96 (0,0))∧Own h' w' 53 2 n xs∧Ext (fun q=>q=b∨w.ownBlock=some q) h h'∧w'.ownBlock=w.ownBlock:=by
 have kr:=fun (g:ah) (hb:g[b]?=some (.cells ⟨lR w (.pointer (some ⟨fb,0,none⟩)) s p i bg ov⟩ 96 (0,0)))=>dV hb
 obtain ⟨A,c,rfl,_⟩:=id ho.slice
 have nW:(Value.slice A (n+1) c).ownBlock ≠ some b:=bQ ho hb (by decide)
 have hlt:∀ q,(Value.slice A (n+1) c).ownBlock=some q→q < h.size:=fun q hq=>ho.lt hq
 have lb:=ai hb
 have hone':∀ x∈.int .u8 k :: v :: xs,x.oneCell'=true:=fun x hx=>by
   simp only [List.mem_cons] at hx
   rcases hx with rfl | rfl | hx
   · rfl
   · exact hv
   · exact hone x hx
 refine calls [(0,_)] Tryz.func27 rfl Tryz.ntmps27 rfl ⟨rfl,trivial⟩ ?_
 refine WC.sr ?_;refine WL.aj (an (fun w=>Tryz.zeroValue53 w)) rfl rfl rfl ?_
 rintro _ h1 ⟨b1,rfl,bR,aR,az⟩
 have fT:=az.obj hb aO
 have jM:=ho.ext az (fun _ _=>aO)
 refine Go ?_;refine G3 ?_;refine WL.call (vs:=[_]) rfl Tryz.call51 rfl (kr _ fT) rfl rfl rfl ?_
 rintro _ hq ⟨rfl,hz⟩
 replace hz:=hz.symm
 subst hz
 refine Go ?_
 refine bK 8 ?_ TT.mk
 refine Gg ?_;refine WL.step (ae rfl) rfl rfl rfl ?_;refine Gg ?_;refine WL.ld rfl (by first | exact aa fT rfl | assumption) rfl rfl rfl ?_
 refine Gg ?_;refine Go ?_;refine Gs [(0,_),(2,_),(15,_)] ?_
 refine aH 1 2 ?_ TT.mk
 all_goals (refine aw 2 ?_)
 refine WC.skip ?_;refine Gn ?_;refine G2 ?_;refine WL.step (ae rfl) rfl rfl rfl (Go ?_);refine WL.ld rfl (by first | exact aa fT rfl | assumption) rfl rfl rfl ?_
 obtain ⟨bb,o,rfl,_,hat⟩:=Rd.at_ jM.rd (by omega)
 refine WL.step (aE Tryz.underlying94 Tryz.sizeOf53 rfl rfl rfl (by first | omega | (simp <;> omega)) (by first | rfl | assumption) (k:=0)) rfl rfl rfl ?_
 refine WL.step (ay Tryz.isAgg53 Tryz.sizeOf53 rfl rfl (by exact At.pre (xs:=[_,_]) (ys:=_) (by simpa using hat))) rfl rfl rfl ?_
 refine WL.aj (an (fun w=>Tryz.zeroValue53 w)) rfl rfl rfl ?_
 rintro _ h2 ⟨b2,rfl,gg,bH,aI⟩
 refine WL.ax (al Tryz.sizeOf53 rfl rfl rfl bH rfl (fun x hx=>hone' x (by simp only [List.mem_cons,List.not_mem_nil,or_false] at hx ⊢;rcases hx with rfl | rfl <;> simp))) rfl rfl ?_
 rintro _ h3 ⟨bq,aQ⟩
 have X3:Ext No h h3:=(az.trans aI).trans' aQ (fun q hq e=>by have:=az.size;omega)
 have Ji:=X3.obj hb aO
 have dN:=ho.ext X3 (fun _ _=>aO)
 have cw:=aQ.obj (aI.obj aR aO) (fun e=>by have:=ai aR;omega)
 refine Gn ?_;refine Gs [(0,_),(2,_),(4,_)] ?_;refine G2 ?_;refine WL.step (ae rfl) rfl rfl rfl (Go ?_);refine Ld ?_;refine WL.call (vs:=[_,_,_]) rfl Tryz.call60 rfl (sO dN (by omega) hone' (by omega)) rfl rfl rfl ?_
 rintro v4 h4 ⟨fP,aW,r8⟩
 obtain ⟨A4,c4,rfl,_⟩:=id fP.slice
 have wz:=aW.obj Ji nW
 have bJ:=aW.obj cw (fun e=>by have:=hlt _ e;omega)
 have pQ:=aW.obj bq (fun e=>by have:=hlt _ e;have:=az.size;omega)
 refine WL.step (ae rfl) rfl rfl rfl (Go ?_);refine WL.ax (aB Tryz.sizeOf94 rfl rfl wz (Nat.le_of_ble_eq_true rfl) rfl rfl) rfl rfl ?_
 rintro _ h5 ⟨bV,aM⟩
 have X5:Ext (fun q=>q=b∨(Value.slice (some ⟨bb,o,none⟩) (n+1) c).ownBlock=some q) h h5:=(X3.mono fun _ _ e=>e.elim).trans ((aW.mono fun _ _ e=>.inr e).trans (aM.mono fun _ _ e=>.inl e))
 have eF:=fP.ext aM (fun q hq e=>bQ fP wz (by decide) (e▸hq))
 have db:=aM.obj bJ (fun e=>by omega)
 have KW:=aM.obj pQ (fun e=>by have:=az.size;omega)
 refine Gn ?_;refine Gs [(2,_),(4,_)] ?_;refine WC.sr ?_;refine WL.step (ay Tryz.isAgg53 Tryz.sizeOf53 rfl rfl (by exact At.av KW)) rfl rfl rfl ?_
 refine WL.ax (al Tryz.sizeOf53 rfl rfl rfl db rfl (fun x hx=>hone' x (by simp only [List.mem_cons,List.not_mem_nil,or_false] at hx ⊢;rcases hx with rfl | rfl <;> simp))) rfl rfl ?_
 rintro _ h6 ⟨bX,aN⟩
 refine Go ?_;refine WC.ret ?_
 repeat' (with_reducible first | refine aZ ?_ | refine aV ?_)
 refine cV _ _ ⟨⟨_,rfl,bB Tryz.isAgg53 Tryz.sizeOf53 (by assumption) rfl⟩,rfl,trivial⟩ ?_
 exact ⟨rfl,_,aN.obj bV (fun e=>by omega),eF.ext aN (fun q hq e=>by rw [r8] at hq;have:=hlt q hq;omega),X5.trans' aN (fun q hq e=>by omega),r8⟩
theorem lE {h:ah} {b fb c:Nat} {A:Option Addr} {s p i:Value} {bg ov:Bool} (hb:h[b]?=some (.cells ⟨lR (.slice A 0 c) (.pointer (some ⟨fb,0,none⟩)) s p i bg ov⟩ 96 (0,0))) :
   ag Tryz.prog 27 ⟨[.pointer (some ⟨b,0,none⟩)]⟩ h fun u h'=>u=.tuple ⟨[.agg ⟨[.int .u8 0,.slice none 0 0]⟩,.bool false]⟩∧Ext No h h':=by
 have kr:=fun (g:ah) (hb:g[b]?=some (.cells ⟨lR (.slice A 0 c) (.pointer (some ⟨fb,0,none⟩)) s p i bg ov⟩ 96 (0,0)))=>dV hb
 refine calls [(0,_)] Tryz.func27 rfl Tryz.ntmps27 rfl ⟨rfl,trivial⟩ ?_
 refine WC.sr ?_;refine WL.aj (an (fun w=>Tryz.zeroValue53 w)) rfl rfl rfl ?_
 rintro _ h1 ⟨b1,rfl,bR,aR,az⟩
 have fT:=az.obj hb aO
 refine Go ?_;refine G3 ?_;refine WL.call (vs:=[_]) rfl Tryz.call51 rfl (kr _ fT) rfl rfl rfl ?_
 rintro _ hq ⟨rfl,hz⟩
 replace hz:=hz.symm
 subst hz
 refine Go ?_
 refine bK 8 ?_ TT.mk
 refine Gg ?_;refine WL.step (ae rfl) rfl rfl rfl ?_;refine Gg ?_;refine WL.ld rfl (by first | exact aa fT rfl | assumption) rfl rfl rfl ?_
 refine Gg ?_;refine Go ?_;refine Gs [(0,_),(2,_),(15,_)] ?_
 refine aH 1 2 ?_ TT.mk
 all_goals (refine aw 1 ?_)
 refine WC.sr ?_;refine WL.step (aF (vs:=[]) (cs:=[_,_]) (fun | []=>[(.int .u8 0),(.slice none 0 0)] | _=>[]) rfl rfl (by kernel_rfl)) rfl rfl rfl ?_
 refine WL.ax (al Tryz.sizeOf53 rfl rfl rfl aR rfl (by simp [Value.oneCell'])) rfl rfl ?_
 rintro _ h2 ⟨bH,aI⟩
 refine Go ?_;refine WC.ret ?_
 repeat' (with_reducible first | refine aZ ?_ | refine aV ?_)
 refine cV _ _ ⟨⟨_,rfl,bB Tryz.isAgg53 Tryz.sizeOf53 (by assumption) rfl⟩,rfl,trivial⟩ ?_
 exact ⟨rfl,az.trans' aI (fun q hq e=>by omega)⟩
section
variable {h0 h h':ah} {b:Nat} {s:SP} {bg:Bool} {l:List UInt8} {O:List (Int × List UInt8)}
theorem xy (k:qA h0 h b s bg l []):ag Tryz.prog 27 ⟨[.pointer (some ⟨b,0,none⟩)]⟩ h fun u h'=>u=.tuple ⟨[.agg ⟨[.int .u8 0,.slice none 0 0]⟩,.bool false]⟩∧qA h0 h' b s bg l []∧Ext No h h':=by
 have k0:=k
 obtain ⟨fb,A,v,w,M,k,e⟩:=k
 obtain rfl:M=[]:=List.map_eq_nil_iff.1 e
 obtain ⟨B,c,rfl,_⟩:=id k.sd.row.slice
 exact (lE k.bm).mono fun u h' ⟨e,x⟩=>⟨e,k0.aq x,x⟩
theorem take_one {y:Int × List UInt8} (k:qA h0 h b s bg l (y :: O)) (hO:O.length≤100000):ag Tryz.prog 27 ⟨[.pointer (some ⟨b,0,none⟩)]⟩ h fun u h'=>∃ m,u=.tuple ⟨[.agg ⟨[.int .u8 y.1,m]⟩,.bool true]⟩∧Own h' m 5 1 y.2.length (bA y.2)∧qA h0 h' b s bg l O∧Ext (sF h0) h h':=by
 obtain ⟨fb,A,v,w,M,k,e⟩:=k
 obtain ⟨z,M,rfl⟩:∃ z N,M=z :: N:=by
   cases M with
   | nil=>simp at e
   | cons z N=>exact ⟨z,N,rfl⟩
 simp only [List.map_cons,List.cons.injEq] at e
 obtain ⟨rfl,rfl⟩:=e
 obtain ⟨zk,zv,zl⟩:=z
 have hone:=k.sd.one
 have hrow:=k.sd.row
 simp only [List.flatMap_cons,uF,List.length_cons,List.cons_append,List.nil_append] at hrow hone
 have hbz:=k.sd.bod (zk,zv,zl) (by simp)
 have lb:=ai k.bm
 refine (kE k.bm hrow (hX hbz) (fun x hx=>hone x (by simp only [List.mem_cons];exact .inr (.inr hx))) (by simp only [List.length_map] at hO;omega)).mono fun u h' ⟨hu,w',hb',ho',hx,hw⟩=>?_
 have hzw:∀ q,(q=b∨w.ownBlock=some q)→A.z q:=fun q e=>(k.z q).2 (e.elim .inl fun e=>.inr (.inr (.inr e)))
 have off:∀ x∈((zk,zv,zl):mj) :: M,∀ q,x.2.1.ownBlock=some q→¬ (q=b∨w.ownBlock=some q):=fun x hx q hq e=>e.elim (fun e=>(k.sd.off k.bm (by decide) (by decide)).2 x hx (e▸hq)) (fun e=>by obtain ⟨_,a1⟩:=bO k.sd.row e;obtain ⟨_,a2⟩:=bO (k.sd.bod x hx) hq;rw [a1] at a2;simp at a2)
 have hfw:=k.fw.ext hx (fun e=>e.elim (fun e=>k.vR e.symm) (fun e=>(k.sd.off k.fw.bm (by decide) (by decide)).1 e)) (fun q hq e=>e.elim (fun e=>bQ k.fw.own k.bm (by decide) (e▸hq)) (fun e=>by obtain ⟨_,a1⟩:=bO k.sd.row e;obtain ⟨_,a2⟩:=bO k.fw.own hq;rw [a1] at a2;simp at a2))
 refine ⟨zv,hu,hbz.ext hx (off _ (by simp)),⟨fb,A,v,w',M,⟨hb',hfw,k.se.xq hx (fun q e=>k.H4 q (hzw q e)),⟨ho',fun x hx'=>(k.sd.bod x (by simp [hx'])).ext hx (off x (by simp [hx']))⟩,fun x hx'=>k.nv x (by simp [hx']),fun q=>by rw [hw];exact k.z q,by have:=hx.size;have:=k.x0;omega⟩,rfl⟩,hx.mono fun q _ e=>k.lo q (hzw q e)⟩
end
theorem nU.z0 {h0 h:ah} {A:Ad} (k:nU h0 h A qz) {z':Nat→Prop} (hz:∀ q,z' q→h0.size≤q∧q < h.size):nU h0 h { A with z:=z' } qz:=by
 obtain ⟨L,P,k,e1,e2,e3,e4⟩:=k
 obtain rfl:L=[]:=List.map_eq_nil_iff.1 e1
 obtain rfl:P=[]:=List.map_eq_nil_iff.1 e2
 exact ⟨[],[],⟨k.se,k.sok,k.pok,k.dis,k.sto,k.cok,⟨(fun _ h=>nomatch h),(fun _ h=>nomatch h),fun q hq=>(hz q hq).2⟩⟩,rfl,rfl,e3,fun q hq=>(hz q hq).1⟩
def nJ (h0 h:ah) (b:Nat) (l:List UInt8):Prop:=∃ fb A v,Sq h0 h b fb A qz false l v (.slice none 0 0) []
theorem ID {h0 h:ah} {be me:Nat} (hb:h[be]?=some (.cells ⟨[.map (some me),In 0]⟩ 104 (0,0))) (hm:Mp .string St h me ([]:List (List UInt8 × Value))) (x:Ext No h0 h) (g1:h0.size≤be) :
   ag Tryz.prog 23 ⟨[.pointer (some ⟨be,0,none⟩),.slice none 0 0,In 0]⟩ h fun u h'=>∃ b,u=.pointer (some ⟨b,0,none⟩)∧nJ h0 h' b []∧Ext No h h':=by
 have kn:=fun (g:ah) (y:Ext No h g)=>HZ (h0:=h0) (y.obj hb aO) (hm.ext y aO) (x.trans y) g1
 have x0:=x.size
 refine calls [(0,_),(1,_),(2,_)] Tryz.func23 rfl Tryz.ntmps23 rfl ⟨rfl,rfl,rfl,trivial⟩ ?_
 refine G2 ?_;refine WC.sr ?_;refine WL.call (vs:=[_,_,_]) rfl Tryz.call48 rfl (yu) rfl rfl rfl ?_
 rintro _ h1 ⟨fb,rfl,kf,hgf,az⟩
 refine Go ?_;refine Gs [(0,_),(1,_),(2,_),(7,_),(8,_)] ?_;refine G3 ?_
 refine aH 1 2 ?_ TT.mk
 all_goals (refine aw 2 ?_)
 refine WC.skip ?_;refine Gn ?_;refine G2 ?_;refine WL.call (vs:=[_]) rfl Tryz.call49 rfl (kn _ az) rfl rfl rfl ?_
 rintro _ h2 ⟨A,rfl,NW,aI⟩
 refine Go ?_;refine WL.call (vs:=[_]) rfl Tryz.call50 rfl (nb) rfl rfl rfl ?_
 rintro _ hz ⟨rfl,_⟩
 subst hz
 refine Go ?_;refine WL.step (aF (vs:=[_,_,_,_]) (cs:=[_,_,_,_,_,_,_]) (fun | [a1,a2,a3,a4]=>[(.slice none 0 0),a1,a2,a3,a4,(.bool false),(.bool false)] | _=>[]) rfl rfl (by kernel_rfl)) rfl rfl rfl ?_
 refine WL.aj (aG rfl) rfl rfl rfl ?_
 rintro _ h3 ⟨b,rfl,gl,bq,aQ⟩
 refine Go ?_;refine Gs [(6,_)] ?_;refine Gt ?_
 have l1:=az.size
 have l2:=aI.size
 have l3:=ai bq
 have Ma:=(kf.aq aI).aq aQ
 have l4:=ai Ma.bm
 have NX:nU h0 h3 { A with z:=fun q=>q=b∨q=fb∨(Value.slice none 0 0).ownBlock=some q∨(Value.slice none 0 0).ownBlock=some q } qz:=(NW.aq aQ).z0 (fun q hq=>by rcases hq with e | e | e | e;omega;omega;simp [Value.ownBlock] at e;simp [Value.ownBlock] at e)
 exact ⟨b,rfl,⟨fb,{ A with z:=fun q=>q=b∨q=fb∨(Value.slice none 0 0).ownBlock=some q∨(Value.slice none 0 0).ownBlock=some q },_,⟨bq,Ma,NX,Sd.nil _,(fun _ h=>nomatch h),fun q=>Iff.rfl,by omega⟩⟩,(az.trans aI).trans aQ⟩
section
variable {h0 h h':ah} {b:Nat} {l:List UInt8}
theorem D4 (k:nJ h0 h b l) (hp:Part 0 l) (hm:l.length≤1000000) :
   ag Tryz.prog 26 ⟨[.pointer (some ⟨b,0,none⟩)]⟩ h fun u h'=>u=.tuple ⟨[.agg ⟨Gy⟩,.bool false]⟩∧nJ h0 h' b l∧Ext (sF h0) h h':=by
 obtain ⟨fb,A,v,k⟩:=k
 exact (vS k rfl hp hm).mono fun u h' ⟨a,k,x⟩=>⟨a,⟨fb,A,v,k⟩,x⟩
theorem IE {x:Value} {m:List UInt8} (k:nJ h0 h b l) (hr:Rd h x 1 m.length (bA m)) (hl:l.length+m.length≤262144) :
   ag Tryz.prog 25 ⟨[.pointer (some ⟨b,0,none⟩),x]⟩ h fun _ h'=>nJ h0 h' b (l++m)∧Ext (sF h0) h h':=by
 obtain ⟨fb,A,v,k⟩:=k
 exact (vT k rfl hr hl).mono fun u h' ⟨⟨A',v',k⟩,x⟩=>⟨⟨fb,A',v',k⟩,x⟩
theorem Gi {r:List UInt8} (k:nJ h0 h b (di++r)) (hr:r.length≤100000) :
   ag Tryz.prog 26 ⟨[.pointer (some ⟨b,0,none⟩)]⟩ h fun u h'=>u=.tuple ⟨[.agg ⟨Gy⟩,.bool false]⟩∧qA h0 h' b qz true r gk∧Ext (sF h0) h h':=by
 obtain ⟨fb,A,v,k⟩:=k
 refine (nz k.bm k.fw hr).mono fun u h' ⟨hu,w,M,v',hM,hb',sd,kf,hx,hw,hm,hv⟩=>?_
 have hzz:∀ q,(q=b∨q=fb∨v.ownBlock=some q)→A.z q:=fun q e=>(k.z q).2 (e.elim .inl (fun e=>e.elim (fun e=>.inr (.inl e)) (fun e=>.inr (.inr (.inl e)))))
 have lb:=ai k.bm
 have lf:=ai k.fw.bm
 have s1:=hx.size
 have x0:=k.x0
 refine ⟨hu,⟨fb,{ A with z:=fun q=>q=b∨q=fb∨v'.ownBlock=some q∨w.ownBlock=some q },v',w,M,⟨hb',kf,k.se.FW hx (fun q e=>k.H4 q (hzz q e)) (fun q hq=>?_) x0,sd,fun x hx' q hq e=>by rw [hv] at e;have:=hm x hx' q hq;have:=k.fw.own.lt e;omega,fun q=>Iff.rfl,by omega⟩,hM⟩,hx.mono fun q _ e=>k.lo q (hzz q e)⟩
 rcases hq with hq | hq | hq | hq
 · exact ⟨.inl (hzz q (.inl hq)),by omega⟩
 · exact ⟨.inl (hzz q (.inr (.inl hq))),by omega⟩
 · rw [hv] at hq;exact ⟨.inl (hzz q (.inr (.inr hq))),by have:=k.fw.own.lt hq;omega⟩
 · exact ⟨.inr (hw q hq),sd.lt.1 q hq⟩
end
theorem Gj (t:List UInt8):(bh t).n≤99:=by
 unfold bh
 split
 · show (0:Int)≤99;decide
 · split
   · unfold rZ
     split
     · split
       · rename_i n hn
         unfold nh at hn
         split at hn
         · exact nomatch hn
         · split at hn
           · exact nomatch hn
           · split at hn
             · split at hn
               · exact nomatch hn
               · simp only [Option.some.injEq] at hn
                 show n≤99
                 omega
             · exact nomatch hn
       · show (0:Int)≤99;decide
     · split
       · split
         · show (0:Int)≤99;decide
         · show (0:Int)≤99;decide
       · show (0:Int)≤99;decide
   · show (0:Int)≤99;decide
theorem Gk (t:List UInt8):(bh t).c.length≤5:=by
 unfold bh
 split
 · exact Nat.zero_le _
 · split
   · unfold rZ
     split
     · split
       · exact Nat.zero_le _
       · exact Nat.zero_le _
     · split
       · split
         · rename_i hc
           unfold rY at hc
           simp only [Bool.and_eq_true,decide_eq_true_eq] at hc
           exact Nat.le_of_eq hc.1
         · exact Nat.zero_le _
       · exact Nat.zero_le _
   · exact Nat.zero_le _
def iO (s:SP):Prop:=∀ q∈s.P,q.2.2.2.2.1.length≤99
def D5 (e:HG):Prop:=∀ c t,e=some (c,t)→c.length≤1000∧t.length≤100000
structure AL (r:fS):Prop where
 cap:iO r.1
 len:r.2.1.length≤101
 NY:∀ x∈r.2.1,x.kind ≠ 69
 er:D5 r.2.2
structure uQ (f:gi):Prop where
 name:f.name.length≤300
 portal:f.portal.length≤300
 params:f.params.length≤50
theorem da:D5 none:=fun _ _ h=>nomatch h
theorem dC {c t:List UInt8} (h1:c.length≤1000) (h2:t.length≤100000):D5 (some (c,t)):=fun c' t' e=>by
 simp only [Option.some.injEq,Prod.mk.injEq] at e
 obtain ⟨rfl,rfl⟩:=e
 exact ⟨h1,h2⟩
theorem kF (t n w:List UInt8):(ig t n w).length=t.length+n.length+w.length+4:=by simp [ig,jG];omega
theorem AM {n:List UInt8} (h:n.length≤300):(nk n).length≤1000:=by
 unfold nk
 split
 · exact Nat.le_of_ble_eq_true rfl
 · rw [kF];simp;omega
theorem pn:p7.length≤1000:=Nat.le_of_ble_eq_true rfl
theorem sQ (t:List UInt8) (st:Int):D5 (gh t st):=by
 unfold gh
 split
 · exact dC (Nat.le_of_ble_eq_true rfl) (Nat.le_trans pn (by omega))
 · exact da
theorem AN (t:List UInt8) (st:Int):D5 (jF t st):=by
 unfold jF
 split
 · exact dC (Nat.le_of_ble_eq_true rfl) (Nat.le_of_ble_eq_true rfl)
 · split
   · exact dC (Nat.le_of_ble_eq_true rfl) (Nat.le_trans pn (by omega))
   · exact da
section
variable {s:SP}
theorem wb {n:List UInt8} (h:n.length≤300):D5 (jv s n):=by
 unfold jv
 split
 · exact dC (Nat.le_of_ble_eq_true rfl) (Nat.le_trans (AM h) (by omega))
 · exact sQ _ _
theorem wc {n:List UInt8} (h:n.length≤300):D5 (gE s n):=by
 unfold gE
 split
 · exact dC (Nat.le_of_ble_eq_true rfl) (by rw [kF];simp;omega)
 · exact sQ _ _
theorem iO.of (k:iO s) {s':SP} (h:s'.P=s.P∨s'.P=[]):iO s':=by
 unfold iO
 rcases h with e | e <;> rw [e]
 · exact k
 · exact fun _ h=>nomatch h
theorem iO.sB (k:iO s) (x:List UInt8):iO { s with P:=cb s.P x }:=fun q hq=>k q (cB hq).1
theorem iO.lq (k:iO s) (x:List UInt8) (v:Fj) (h:v.2.2.2.1.length≤99):iO { s with P:=cl s.P x v }:=fun q hq=>by
 rcases cu hq with rfl | ⟨hq,_⟩
 · exact h
 · exact k q hq
theorem ji (k:iO s) {e:HG} (he:D5 e):AL (s,[],e):=⟨k,Nat.zero_le _,(fun _ h=>nomatch h),he⟩
theorem uS (k:iO s) {b:jb} (hb:b.kind ≠ 69):AL (s,[b],none):=⟨k,Nat.le_of_ble_eq_true rfl,fun x hx=>by obtain rfl:=List.mem_singleton.1 hx;exact hb,da⟩
theorem sR (t:List UInt8) (ps:List eC) (c:Int):(cY (bh t) ps c).1.length≤99:=by
 have:=Gj t
 unfold cY
 split
 · rw [lv];unfold cU;omega
 · split
   · exact Nat.le_of_ble_eq_true rfl
   · split
     · exact Nat.le_of_ble_eq_true rfl
     · exact Nat.zero_le _
theorem lX (l:List (List eC)) (m:Bool):(cQ l m).length=l.length+1:=by simp [cQ]
theorem nK (l:List (List eC)) (m:Bool):∀ x∈cQ l m,x.kind ≠ 69:=fun x hx=>by
 unfold cQ at hx
 rcases List.mem_append.1 hx with hx | hx
 · obtain ⟨r,_,rfl⟩:=List.mem_map.1 hx
   show (68:Int) ≠ 69;decide
 · obtain rfl:=List.mem_singleton.1 hx
   split
   · show (115:Int) ≠ 69;decide
   · show (67:Int) ≠ 69;decide
theorem po (t:Fi):(iM t).kind ≠ 69:=by
 unfold iM
 split
 · show (84:Int) ≠ 69;decide
 · show (110:Int) ≠ 69;decide
theorem we (k:iO s) (t:List UInt8):AL (cG s (bh t)):=by
 unfold cG
 split
 · exact uS k (by show (73:Int) ≠ 69;decide)
 · split
   · exact ji k (dC (by have:=Gk t;omega) (Nat.le_of_ble_eq_true rfl))
   · refine uS (k.of ?_) (by show (67:Int) ≠ 69;decide)
     dsimp only
     split
     · exact .inr rfl
     · exact .inl rfl
theorem AO (k:iO s) (f:gi) (hf:uQ f):AL (eD s f):=by
 have k1:iO (if f.name=[] then { s with L:=cb s.L [] } else s):=by
   split
   · exact k.of (.inl rfl)
   · exact k
 unfold eD
 dsimp only
 generalize (if f.name=[] then { s with L:=cb s.L [] } else s)=s1 at k1 ⊢
 have hr:=AN f.text s.st
 split
 · rename_i e he
   rw [he] at hr
   exact ji k1 hr
 · split
   · exact ji k1 (dC (Nat.le_of_ble_eq_true rfl) (by unfold vC;rw [kF];have:=hf.name;simp;omega))
   · exact uS (b:={ kind:=49 }) (iO.of k1 (s':={ s1 with L:=cl s1.L f.name (f.text,f.oids) }) (.inl rfl)) (by show (49:Int) ≠ 69;decide)
theorem Dd (k:iO s) {n:Nat} (lm:dP n s) (f:gi) (hf:uQ f):AL (fG s f):=by
 have hs:=wb (s:=s) hf.name
 have h1:=hf.name
 have h2:=hf.portal
 have h3:=hf.params
 unfold fG
 split
 · rename_i e he
   rw [he] at hs
   exact ji k hs
 · split
   · exact ji k da
   · rename_i t ht
     have hm:=(lm.l _ (dt ht)).2
     dsimp only at hm
     split
     · refine ji k (dC (Nat.le_of_ble_eq_true rfl) ?_)
       have d1:=dk (f.params.length:Int) (by omega)
       have d2:=dk (t.2.length:Int) (by omega)
       unfold qc
       simp only [List.length_append,r9]
       simp
       omega
     · split
       · exact ji k (dC (Nat.le_of_ble_eq_true rfl) (by rw [kF];simp;omega))
       · exact uS (k.lq _ _ (Nat.zero_le _)) (by show (50:Int) ≠ 69;decide)
theorem sS (k:iO s) (f:gi) (hf:uQ f):AL (cy s f):=by
 have hs:=wb (s:=s) hf.name
 have hp:=wc (s:=s) hf.portal
 unfold cy
 split
 · split
   · rename_i e he
     rw [he] at hs
     exact ji k hs
   · split
     · exact ji k da
     · rename_i t ht
       refine ⟨k,Nat.le_of_ble_eq_true rfl,fun x hx=>?_,da⟩
       rcases List.mem_cons.1 hx with rfl | hx
       · show (116:Int) ≠ 69;decide
       · obtain rfl:=List.mem_singleton.1 hx
         exact po _
 · split
   · rename_i e he
     rw [he] at hp
     exact ji k hp
   · split
     · exact ji k da
     · exact uS k (po _)
theorem AP {rs:List (List eC)} (ov:Bool) (m:Int) (h:rs.length≤99):(dJ rs ov m).1.length≤99∧(dJ rs ov m).2.1.length≤99:=by
 unfold dJ
 split
 · exact ⟨Nat.zero_le _,h⟩
 · dsimp only
   rw [List.length_take,List.length_drop]
   omega
theorem uT (k:iO s) (f:gi) (hf:uQ f):AL (cd s f):=by
 have hp:=wc (s:=s) hf.portal
 unfold cd
 split
 · rename_i e he
   rw [he] at hp
   exact ji k hp
 · split
   · exact ji k da
   · rename_i t o ps rs ran ov hg
     have hm:=k _ (dt hg)
     dsimp only at hm
     split
     · have hrs : (if ran = true then (rs, s.cnt) else cY (bh t) ps s.cnt).1.length ≤ 99 := by
         split
         · exact hm
         · exact sR _ _ _
       dsimp only
       generalize (if ran=true then (rs,s.cnt) else cY (bh t) ps s.cnt)=rc at hrs ⊢
       have hq:=AP ov f.max hrs
       exact ⟨iO.lq (s:={ s with cnt:=rc.2 }) (k.of (.inl rfl)) _ _ hq.2,by dsimp only;rw [lX];omega,nK _ _,da⟩
     · split
       · exact ji k (dC (Nat.le_of_ble_eq_true rfl) (Nat.le_of_ble_eq_true rfl))
       · have kt:=we k t
         split
         · rename_i s1 out he
           rw [he] at kt
           refine ⟨?_,kt.len,kt.NY,da⟩
           dsimp only
           split
           · exact kt.cap
           · exact kt.cap.lq _ _ (Nat.zero_le _)
         · exact kt
theorem De (k:iO s) (f:gi):AL (gF s f):=by
 unfold gF
 split
 · exact uS (b:={ kind:=51 }) (iO.of k (s':={ s with L:=cb s.L f.name }) (.inl rfl)) (by show (51:Int) ≠ 69;decide)
 · exact uS (b:={ kind:=51 }) (k.sB _) (by show (51:Int) ≠ 69;decide)
theorem AQ (k:iO s) (f:gi):AL (dy s f):=by
 have k1:iO { s with L:=cb s.L [],P:=cb s.P [] }:=(k.sB []).of (.inl rfl)
 have hr:=AN f.text s.st
 unfold dy
 dsimp only
 split
 · rename_i e he
   rw [he] at hr
   exact ji k1 hr
 · split
   · refine ⟨k1.of (.inl rfl),?_,fun x hx=>?_,da⟩
     · dsimp only
       rw [List.length_cons,lX]
       have:=sR f.text [] s.cnt
       omega
     · rcases List.mem_cons.1 hx with rfl | hx
       · show (84:Int) ≠ 69;decide
       · exact nK _ _ _ hx
   · exact we k1 _
theorem Df (k:iO s) {n:Nat} (lm:dP n s) (f:gi) (hf:uQ f):AL (ei s f):=by
 unfold ei
 split
 · exact AO k f hf
 · split
   · exact Dd k lm f hf
   · split
     · exact sS k f hf
     · split
       · exact uT k f hf
       · split
         · exact De k f
         · split
           · exact AQ k f
           · exact ji k da
theorem iO.sync (k:iO s):iO (dY s).1:=by
 refine k.of ?_
 unfold dY
 dsimp only
 split
 · exact .inr rfl
 · exact .inl rfl
structure KX (r:SP × List jb):Prop where
 cap:iO r.1
 len:r.2.length≤103
 er:∀ x∈r.2,x.kind=69→∃ c t,x=oo c t∧c.length≤1000∧t.length≤100000
theorem qJ (k:iO s):KX (s,[]):=⟨k,Nat.zero_le _,fun _ h=>nomatch h⟩
theorem Dg (f:gi) {r:fS} (k:AL r):KX (fH f r):=by
 obtain ⟨s1,out,e⟩:=r
 obtain ⟨k1,k2,k3,k4⟩:=k
 dsimp only at k1 k2 k3 k4
 obtain ⟨s2,o2,he,ki,kl,ko⟩:∃ s2 o2,fH f (s1,out,e)=(if f.kind=81 then ((dY s2).1,o2++[(dY s2).2]) else (s2,o2))∧iO s2∧o2.length≤102∧∀ x∈o2,x.kind=69→∃ c t,x=oo c t∧c.length≤1000∧t.length≤100000:=by
   rcases e with _ | ⟨c,t⟩
   · exact ⟨s1,out,rfl,k1,by omega,fun x hx e=>absurd e (k3 x hx)⟩
   · refine ⟨_,_,rfl,k1.of ?_,by simp;omega,fun x hx e=>?_⟩
     · dsimp only [hJ]
       split
       · exact .inr rfl
       · exact .inl rfl
     · rcases List.mem_append.1 hx with hx | hx
       · exact absurd e (k3 x hx)
       · obtain rfl:=List.mem_singleton.1 hx
         exact ⟨c,t,rfl,k4 c t rfl⟩
 rw [he]
 split
 · refine ⟨ki.sync,by simp;omega,fun x hx e=>?_⟩
   rcases List.mem_append.1 hx with hx | hx
   · exact ko x hx e
   · obtain rfl:=List.mem_singleton.1 hx
     exact absurd e (by show (90:Int) ≠ 69;decide)
 · exact ⟨ki,by dsimp only;omega,ko⟩
theorem Dh (k:iO s) {n:Nat} (lm:dP n s) (f:gi) (hf:uQ f):KX (iw s f):=by
 unfold iw
 split
 · exact qJ k
 · split
   · exact qJ (k.of (.inl rfl))
   · split
     · refine ⟨(iO.of (s':={ s with sk:=false }) k (.inl rfl)).sync,Nat.le_of_ble_eq_true rfl,fun x hx e=>?_⟩
       obtain rfl:=List.mem_singleton.1 hx
       exact absurd e (by show (90:Int) ≠ 69;decide)
     · split
       · exact qJ k
       · exact Dg f (Df k lm f hf)
end
theorem Gl {s:SP} (h:iK s.st) (f:gi):iK (iw s f).1.st:=by
 have tn:∀ (s:SP) (v:fR),iK s.st→iK (cG s v).1.st:=fun s v h=>by
   unfold cG
   split
   · exact h
   · split
     · exact h
     · exact r6 h v
 have dl:iK (ei s f).1.st:=by
   unfold ei
   split
   · unfold eD
     dsimp only
     repeat' split
     all_goals exact h
   · split
     · unfold fG
       repeat' split
       all_goals exact h
     · split
       · unfold cy
         repeat' split
         all_goals exact h
       · split
         · unfold cd
           split
           · exact h
           · split
             · exact h
             · rename_i t o ps rs ran ov hg
               split
               · exact h
               · split
                 · exact h
                 · have kt:=tn s (bh t) h
                   split
                   · rename_i s1 out he
                     rw [he] at kt
                     exact kt
                   · exact kt
         · split
           · unfold gF
             split <;> exact h
           · split
             · unfold dy
               dsimp only
               split
               · exact h
               · split
                 · exact h
                 · exact tn _ _ h
             · exact h
 unfold iw
 split
 · exact h
 · split
   · exact h
   · split
     · exact h
     · split
       · exact h
       · generalize ei s f=r at dl ⊢
         obtain ⟨s1,out,e⟩:=r
         unfold fH
         rcases e with _ | ⟨c,t⟩
         · dsimp only
           split
           · exact dl
           · exact dl
         · dsimp only
           split
           · exact ni dl
           · exact ni dl
theorem AR {c t:List UInt8} (h1:c.length≤1000) (h2:t.length≤100000):jh (oo c t):=by
 refine ⟨by unfold Kn;exact .inr (.inr (.inr (.inr (.inr (.inl rfl))))),by show (0:Int)≤0∧(0:Int)≤255;decide,?_,Nat.zero_le _,Nat.zero_le _,Nat.zero_le _,Nat.le_of_ble_eq_true rfl,(fun _ h=>nomatch h),(fun _ h=>nomatch h),?_,Nat.zero_le _,Nat.zero_le _,Nat.zero_le _⟩
 · intro x hx
   simp only [oo,jN,List.mem_cons,List.not_mem_nil,or_false] at hx
   rcases hx with rfl | rfl | rfl | rfl <;> dsimp only <;> omega
 · intro x hx
   simp only [oo,jN,List.mem_cons,List.not_mem_nil,or_false] at hx
   rcases hx with rfl | rfl | rfl | rfl <;> dsimp only <;> first | omega | exact Nat.le_of_ble_eq_true rfl
theorem xz {n:Int} (h:n≤100):jh (oX n):=by
 have hl:((gD (cU n)).map zG).length≤100:=by rw [List.length_map,oW];unfold cU;omega
 refine ⟨by unfold Kn;exact .inr (.inr (.inr (.inl rfl))),by show (0:Int)≤0∧(0:Int)≤255;decide,(fun _ h=>nomatch h),Nat.zero_le _,hl,Nat.zero_le _,Nat.zero_le _,?_,(fun _ h=>nomatch h),(fun _ h=>nomatch h),Nat.zero_le _,Nat.zero_le _,Nat.zero_le _⟩
 intro c hc
 obtain ⟨y,hy,rfl⟩:=List.mem_map.1 hc
 unfold gD at hy
 obtain ⟨i,hi,rfl⟩:=List.mem_map.1 hy
 have hi:=List.mem_range.1 hi
 have hh:=ja n
 have:=dk ((i+1:Nat):Int) (by omega)
 show (99 :: dr ((i+1:Nat):Int)).length≤1000
 rw [List.length_cons]
 omega
theorem Di {G:Prop} {x:jb} (k:gI 50 300 G x) (he:x.kind=69→∃ c t,x=oo c t∧c.length≤1000∧t.length≤100000):jh x:=by
 rcases k with h | ⟨k,rfl,h⟩ | ⟨t,rfl,_,ht⟩ | ⟨o,rfl,ho⟩ | ⟨r,rfl,hr⟩ | ⟨n,rfl,hn⟩
 · obtain ⟨c,t,rfl,h1,h2⟩:=he h
   exact AR h1 h2
 · clear he
   exact ⟨by unfold Kn;dsimp only;omega,by show (0:Int)≤0∧(0:Int)≤255;decide,(fun _ h=>nomatch h),Nat.zero_le _,Nat.zero_le _,Nat.zero_le _,Nat.zero_le _,(fun _ h=>nomatch h),(fun _ h=>nomatch h),(fun _ h=>nomatch h),Nat.zero_le _,Nat.zero_le _,Nat.zero_le _⟩
 · exact ⟨by unfold Kn;dsimp only;omega,by show (0:Int)≤0∧(0:Int)≤255;decide,(fun _ h=>nomatch h),Nat.zero_le _,Nat.zero_le _,Nat.zero_le _,Nat.zero_le _,(fun _ h=>nomatch h),(fun _ h=>nomatch h),(fun _ h=>nomatch h),ht,Nat.zero_le _,Nat.zero_le _⟩
 · exact ⟨by unfold Kn;dsimp only;omega,by show (0:Int)≤0∧(0:Int)≤255;decide,(fun _ h=>nomatch h),Nat.le_trans ho.1 (by omega),Nat.zero_le _,Nat.zero_le _,Nat.zero_le _,(fun _ h=>nomatch h),(fun _ h=>nomatch h),(fun _ h=>nomatch h),Nat.zero_le _,Nat.zero_le _,Nat.zero_le _⟩
 · exact ⟨by unfold Kn;dsimp only;omega,by show (0:Int)≤0∧(0:Int)≤255;decide,(fun _ h=>nomatch h),Nat.zero_le _,Nat.zero_le _,Nat.le_trans hr.1 (by omega),Nat.zero_le _,(fun _ h=>nomatch h),fun c hc=>Nat.le_trans (hr.2 c hc).1 (by omega),(fun _ h=>nomatch h),Nat.zero_le _,Nat.zero_le _,Nat.zero_le _⟩
 · exact xz (by omega)
theorem IF {st:Int} (h:iK st):jh { kind:=90,status:=st } :=
 ⟨.inl rfl,by show 0≤st∧st≤255;rcases h with rfl | rfl | rfl <;> decide,(fun _ h=>nomatch h),Nat.zero_le _,Nat.zero_le _,Nat.zero_le _,Nat.zero_le _,(fun _ h=>nomatch h),(fun _ h=>nomatch h),(fun _ h=>nomatch h),Nat.zero_le _,Nat.zero_le _,Nat.zero_le _⟩
structure qK (n:Nat) (s:SP):Prop where
 GP:dP n s
 inv:Inv 50 300 False s
 cap:iO s
 st:iK s.st
theorem IG:qK 0 qz:=⟨CU,⟨(fun _ h=>nomatch h),(fun _ h=>nomatch h),by decide⟩,(fun _ h=>nomatch h),.inl rfl⟩
theorem qK.step {n:Nat} {s:SP} (k:qK n s) (hn:n < 1000000) (f:gi) (hf:uQ f) (fl:nx f) (hq:Aj 50 False f.oids) (hr:eG 50 300 False f.params) :
   qK (n+1) (iw s f).1∧(∀ p∈(iw s f).2,jh p)∧(iw s f).2.length≤103:=by
 have kf:=Dh k.cap k.GP f hf
 have st:=Gl k.st f
 obtain ⟨ki,l,el,hl⟩:=CQ k.inv k.GP hn (by omega) (by omega) f hq hr
 refine ⟨⟨CN k.GP f fl,ki,kf.cap,st⟩,fun p hp=>?_,kf.len⟩
 have hp':=hp
 rw [el] at hp'
 rcases List.mem_append.1 hp' with hp' | hp'
 · exact Di (hl p hp') (kf.er p hp)
 · split at hp'
   · obtain rfl:=List.mem_singleton.1 hp'
     exact IF st
   · exact nomatch hp'
def kG (s:SP):List Fm→SP
 | []=>s
 | f :: l=>kG (iw s f.p).1 l
def iu (s:SP):List Fm→List jb
 | []=>[]
 | f :: l=>(iw s f.p).2++iu (iw s f.p).1 l
theorem AU (s:SP) (l m:List Fm):kG s (l++m)=kG (kG s l) m:=by
 induction l generalizing s with
 | nil=>rfl
 | cons f l ih=>exact ih _
theorem sT (s:SP) (l m:List Fm):iu s (l++m)=iu s l++iu (kG s l) m:=by
 induction l generalizing s with
 | nil=>rfl
 | cons f l ih=>rw [List.cons_append,iu,ih,iu,kG,List.append_assoc]
theorem AV (s:SP) (h:s.ov=true) (l:List Fm):iu s l=[]:=by
 induction l with
 | nil=>rfl
 | cons f l ih =>
   have e:iw s f.p=(s,[]):=by unfold iw;rw [if_pos h]
   rw [iu,e]
   exact ih
structure Gd (f:Fm):Prop where
 w:f.vU
 m:f.may
theorem Gd.GP {f:Fm} (k:Gd f):∀ g:Fm,g.pl=f.pl→gG g:=fun g e=>by
 simp only [Fm.pl,Prod.mk.injEq] at e
 obtain ⟨_,_,e3,e4,e5,e6,_,_,e9,Pf⟩:=e
 have e9:=congrArg List.length e9
 simp only [List.length_map] at e9
 have:=k.m.max
 have:=k.w.params
 have:=k.w.oids
 exact ⟨by rw [e3];have:=k.w.name;omega,by rw [e4];have:=k.w.portal;omega,by rw [e5];have:=k.w.text;omega,by rw [e6];omega,by omega,by omega⟩
theorem Gd.step {f:Fm} (k:Gd f) {n:Nat} {s:SP} (o:qK n s) (hn:n < 1000000):qK (n+1) (iw s f.p).1∧(∀ p∈(iw s f.p).2,jh p)∧(iw s f.p).2.length≤103:=by
 have lp:f.p.params.length≤50:=by show (f.params.map aX.pl).length≤_;rw [List.length_map];exact k.w.params
 have lt:=k.w.text
 have lo:=k.w.oids
 exact o.step hn f.p ⟨k.w.name,k.w.portal,lp⟩ ⟨by show f.text.length≤_;omega,by show f.oids.length≤_;omega,by omega⟩ ⟨k.w.oids,fun z=>z.elim⟩ ⟨lp,fun c hc=>by
   obtain ⟨d,hd,rfl⟩:=List.mem_map.1 (show c∈f.params.map aX.pl from hc)
   exact ⟨k.w.cells d hd,fun z=>z.elim⟩⟩
theorem AW {s:SP} {n:Nat} (o:qK n s) (l:List Fm) (k:∀ f∈l,Gd f) (hn:n+l.length≤100000):qK (n+l.length) (kG s l)∧(∀ p∈iu s l,jh p)∧(iu s l).length≤103 * l.length:=by
 induction l generalizing s n with
 | nil=>exact ⟨o,(fun _ h=>nomatch h),Nat.zero_le _⟩
 | cons f l ih =>
   simp only [List.length_cons] at hn ⊢
   obtain ⟨o1,m1,l1⟩:=(k f (List.mem_cons_self ..)).step o (by omega)
   obtain ⟨o2,m2,l2⟩:=ih o1 (fun g hg=>k g (List.mem_cons_of_mem _ hg)) (by omega)
   refine ⟨by rw [show n+(l.length+1)=n+1+l.length by omega];exact o2,fun p hp=>?_,?_⟩
   · rw [iu] at hp
     rcases List.mem_append.1 hp with hp | hp
     · exact m1 p hp
     · exact m2 p hp
   · rw [iu,List.length_append]
     omega
def lF (l:List Fm):List UInt8:=l.flatMap fun f=>iv f.kind (iq f)
theorem pq (f:Fm) (l:List Fm):lF (f :: l)=iv f.kind (iq f)++lF l:=rfl
theorem AX:Part 1 []:=.inl (by decide)
theorem nL {k:Int} {m r:List UInt8} (hm:m.length≤60000):ij (((iv k m++r).drop 1).take 4)=((4+m.length:Nat):Int):=by
 have hbl:(be (4+(m.length:Int)) 4).length=4:=bn ..
 have e1:(iv k m++r).drop 1=be (4+(m.length:Int)) 4++(m++r):=by simp [iv]
 have e2:((iv k m++r).drop 1).take 4=be (4+(m.length:Int)) 4:=by rw [e1,List.take_append_of_le_length (by omega),List.take_of_length_le (by omega)]
 rw [e2,qF (by omega) (by show _ < (4294967296:Int);omega)]
 omega
theorem uU {k:Int} {m r l t:List UInt8} (e:l++t=iv k m++r) (hm:m.length≤60000):Part 1 l∨∃ r',l=iv k m++r'∧r'++t=r:=by
 by_cases h:(iv k m).length≤l.length
 · obtain ⟨r', rfl⟩ : ∃ r', l = iv k m ++ r' := by
     have e1:=congrArg (List.take (iv k m).length) e
     rw [List.take_append_of_le_length h,List.take_left] at e1
     have e2:=List.take_append_drop (iv k m).length l
     rw [e1] at e2
     exact ⟨_,e2.symm⟩
   rw [List.append_assoc] at e
   exact .inr ⟨r',rfl,List.append_cancel_left e⟩
 · refine .inl ?_
   rw [hY] at h
   by_cases h5:l.length < 1+4
   · exact .inl h5
   · refine .inr ⟨by omega,4+m.length,?_,⟨by omega,by omega⟩,by omega⟩
     rw [← nL (k:=k) (r:=r) hm,← e,List.drop_append_of_le_length (by omega),List.take_append_of_le_length (by rw [List.length_drop];omega)]
theorem dO:di.length=16:=by decide
theorem nN {a:Nat} (h:a < 16) (r:List UInt8):Part 0 ((di++r).take a):=by
 rw [List.take_append_of_le_length (by rw [dO];omega)]
 have hl:(di.take a).length=a:=by rw [List.length_take,dO];omega
 by_cases h4:a < 4
 · exact .inl (by omega)
 · refine .inr ⟨by omega,16,?_,by decide,by omega⟩
   rw [List.drop_zero,List.take_take,show min 4 a=4 by omega]
   decide
abbrev dZ (fs:List Fm):List UInt8:=di++lF fs
noncomputable def nO (D:List Fm):List (Int × List UInt8):=gk++(iu qz D).flatMap eE
def IH (h0 h:ah) (b:Nat) (fs:List Fm) (a:Nat) (T O:List (Int × List UInt8)) (n:Nat) (i:Bool):Prop :=
 16≤a∧∃ D R l,fs=D++R∧D.length=n∧qA h0 h b (kG qz D) true l O∧((kG qz D).ov=false→l++(dZ fs).drop a=lF R∧(i=true→Part 1 l))∧T++O=nO D
def qU (h0 h:ah) (b:Nat) (fs:List Fm) (a:Nat) (T:List (Int × List UInt8)) (n:Nat) (i:Bool):Prop:=∃ O,IH h0 h b fs a T O n i
def Vv (h0 h:ah) (b:Nat) (fs:List Fm) (a:Nat) (T:List (Int × List UInt8)) (n:Nat) (i:Bool):Prop :=
 (nJ h0 h b ((dZ fs).take a)∧T=[]∧n=0∧(i=true→a < 16))∨qU h0 h b fs a T n i
def Fm.one (g:Fm):Prop:=∀ v∈g.cells,v.oneCell'=true
def NZ (h0 h:ah) (b:Nat) (fs:List Fm) (a:Nat) (T:List (Int × List UInt8)) (n:Nat) (u:Value) (h':ah):Prop :=
 (∃ (g:Fm) (ok:Bool),u=.tuple ⟨[.agg ⟨g.cells⟩,.bool ok]⟩∧g.one∧((ok=false∧g.kind=0∧(Vv h0 h' b fs a T n true∨qU h0 h' b fs a T n false))∨(ok=true∧qU h0 h' b fs a T (n+1) false)))∧Ext (sF h0) h h'
def Dj (h0 h:ah) (b:Nat) (fs:List Fm) (a:Nat) (T:List (Int × List UInt8)) (n:Nat) (i:Bool):Prop :=
 (nJ h0 h b ((dZ fs).take a)∧T=[]∧n=0∧(i=true→a < 16))∨IH h0 h b fs a T [] n i
def D6:Fm:=⟨0,0,[],[],[],.slice none 0 0,[],.slice none 0 0,[],.slice none 0 0,[],.slice none 0 0,[],0⟩
structure tb (fs:List Fm):Prop where
 g:∀ f∈fs,Gd f
 n:fs.length≤20
 l:(dZ fs).length≤3000
section
variable {h0 h h':ah} {b:Nat} {fs:List Fm} {a n:Nat} {T:List (Int × List UInt8)} {i:Bool} {S:Nat→Prop}
theorem sU (l:List jb):(l.flatMap eE).length≤l.length:=by
 induction l with
 | nil=>exact Nat.le_refl _
 | cons p l ih =>
   have:(eE p).length≤1:=by unfold eE;split <;> simp
   rw [List.flatMap_cons,List.length_append,List.length_cons]
   omega
theorem xA:gk.length≤3:=by
 have:=sU (tI.map Bk.p)
 rw [List.flatMap_map] at this
 exact this
theorem tb.sub {D R:List Fm} (k:tb fs) (e:fs=D++R):qK D.length (kG qz D)∧(∀ p∈iu qz D,jh p)∧(iu qz D).length≤2060∧D.length≤20:=by
 have hl:D.length+R.length≤20:=by have:=k.n;rw [e,List.length_append] at this;exact this
 obtain ⟨o,m,l⟩:=AW IG D (fun f hf=>k.g f (by rw [e];exact List.mem_append_left _ hf)) (by omega)
 rw [Nat.zero_add] at o
 exact ⟨o,m,by omega,by omega⟩
theorem nP {D R:List Fm} (k:tb fs) (e:fs=D++R):(nO D).length≤2063:=by
 obtain ⟨_,_,l,_⟩:=k.sub e
 have:=sU (iu qz D)
 have:=xA
 unfold nO
 rw [List.length_append]
 omega
theorem IH.aq {O:List (Int × List UInt8)} (k:IH h0 h b fs a T O n i) (x:Ext No h h'):IH h0 h' b fs a T O n i:=by
 obtain ⟨ha,D,R,l,e1,e2,k,e3,e4⟩:=k
 exact ⟨ha,D,R,l,e1,e2,k.aq x,e3,e4⟩
theorem nJ.aq {l:List UInt8} (k:nJ h0 h b l) (x:Ext No h h'):nJ h0 h' b l:=by
 obtain ⟨fb,A,v,k⟩:=k
 exact ⟨fb,A,v,k.aq x⟩
theorem qU.aq (k:qU h0 h b fs a T n i) (x:Ext No h h'):qU h0 h' b fs a T n i:=by
 obtain ⟨O,k⟩:=k
 exact ⟨O,k.aq x⟩
theorem Vv.aq (k:Vv h0 h b fs a T n i) (x:Ext No h h'):Vv h0 h' b fs a T n i:=by
 rcases k with ⟨k,e⟩ | k
 · exact .inl ⟨k.aq x,e⟩
 · exact .inr (k.aq x)
theorem qU.le (k:qU h0 h b fs a T n i):n≤fs.length:=by
 obtain ⟨O,_,D,R,l,e1,e2,_⟩:=k
 rw [e1,List.length_append]
 omega
theorem Vv.le (k:Vv h0 h b fs a T n i):n≤fs.length:=by
 rcases k with ⟨_,_,e,_⟩ | k
 · omega
 · exact k.le
theorem qU.AY (k:qU h0 h b fs a T n i):qU h0 h b fs a T n false:=by
 obtain ⟨O,ha,D,R,l,e1,e2,k,e3,e4⟩:=k
 exact ⟨O,ha,D,R,l,e1,e2,k,fun o=>⟨(e3 o).1,fun z=>nomatch z⟩,e4⟩
theorem Vv.AY (k:Vv h0 h b fs a T n i):Vv h0 h b fs a T n false:=by
 rcases k with ⟨k,e1,e2,e3⟩ | k
 · exact .inl ⟨k,e1,e2,fun z=>nomatch z⟩
 · exact .inr k.AY
theorem Ba (l m:List Fm):lF (l++m)=lF l++lF m:=List.flatMap_append
theorem qL {D R:List Fm} (e:fs=D++R):(lF R).length≤(dZ fs).length:=by
 rw [e,dZ,Ba,List.length_append,List.length_append]
 omega
theorem xB (fs:List Fm) {a:Nat} (h:16≤a):(dZ fs).drop a=(lF fs).drop (a - 16):=by
 rw [dZ,List.drop_append,dO,List.drop_of_length_le (by rw [dO];omega),List.nil_append]
theorem xC (fs:List Fm) {a:Nat} (h:16≤a):(dZ fs).take a=di++(lF fs).take (a - 16):=by
 rw [dZ,List.take_append,dO,List.take_of_length_le (by rw [dO];omega)]
theorem Bb (gs:tb fs) (er:Er h) (xx:0 < h0.size) (k:qU h0 h b fs a T n i) :
   ag Tryz.prog 26 ⟨[.pointer (some ⟨b,0,none⟩)]⟩ h fun u h'=>(∃ (g:Fm) (ok:Bool),u=.tuple ⟨[.agg ⟨g.cells⟩,.bool ok]⟩∧g.one∧((ok=false∧g.kind=0∧qU h0 h' b fs a T n true)∨(ok=true∧i=false∧qU h0 h' b fs a T (n+1) false)))∧Ext (sF h0) h h':=by
 obtain ⟨O,ha,D,R,l,e1,e2,k,e3,e4⟩:=k
 obtain ⟨o,hm,_,hl⟩:=gs.sub e1
 have hO:O.length≤2063:=by have:=nP gs e1;rw [← e4,List.length_append] at this;omega
 have hone:D6.one:=by unfold Fm.one;decide
 cases ho:(kG qz D).ov
 · obtain ⟨e5,e6⟩:=e3 ho
   have part:Part 1 l→ag Tryz.prog 26 ⟨[.pointer (some ⟨b,0,none⟩)]⟩ h fun u h'=>(∃ (g:Fm) (ok:Bool),u=.tuple ⟨[.agg ⟨g.cells⟩,.bool ok]⟩∧g.one∧((ok=false∧g.kind=0∧qU h0 h' b fs a T n true)∨(ok=true∧i=false∧qU h0 h' b fs a T (n+1) false)))∧Ext (sF h0) h h':=fun hp =>
     (xr k ho hp (by have:=gs.l;have h5:=congrArg List.length e5;have:=qL e1;rw [List.length_append] at h5;omega)).mono fun u h' ⟨hu,k',x⟩=>⟨⟨D6,false,hu,hone,.inl ⟨rfl,rfl,O,ha,D,R,l,e1,e2,k',fun _=>⟨e5,fun _=>hp⟩,e4⟩⟩,x⟩
   rcases R with _ | ⟨f,R⟩
   · have:l=[]:=(List.append_eq_nil_iff.1 (e5.trans (show lF []=[] from rfl))).1
     subst this
     exact part AX
   · have gf:=gs.g f (by rw [e1];simp)
     have hml:=kD gf.w
     rw [pq] at e5
     rcases uU e5 (by omega) with hp | ⟨r,rfl,e7⟩
     · exact part hp
     · cases i
       · obtain ⟨o1,m1,l1⟩:=gf.step o (by omega)
         have hr:r.length≤3000:=by
           have:=congrArg List.length e7
           have h2:=qL (D:=D++[f]) (R:=R) (fs:=fs) (by rw [e1];simp)
           have h3:=gs.l
           rw [List.length_append] at this
           omega
         refine (AK f k ho gf.w gf.m er xx o.GP (by omega) gf.GP m1 (by omega) (by omega)).mono fun u h' ⟨⟨g,gp,g1,hu⟩,k',x⟩=>⟨⟨g,true,hu,g1,.inr ⟨rfl,rfl,O++(iw (kG qz D) f.p).2.flatMap eE,ha,D++[f],R,r,(by rw [e1];simp),(by rw [List.length_append,e2];rfl),?_,?_,?_⟩⟩,x⟩
         · rw [AU]
           exact k'
         · exact fun _=>⟨e7,fun z=>nomatch z⟩
         · rw [← List.append_assoc,e4]
           unfold nO
           rw [sT,List.flatMap_append,List.append_assoc]
           simp [iu]
       · have hp:=e6 rfl
         exact part hp
 · exact (xt k ho).mono fun u h' ⟨hu,k',x⟩=>⟨⟨D6,false,hu,hone,.inl ⟨rfl,rfl,O,ha,D,R,l,e1,e2,k',(fun z=>by rw [ho] at z;cases z),e4⟩⟩,x.mono fun _ _ e=>e.elim⟩
theorem II (gs:tb fs) (er:Er h) (xx:0 < h0.size) (k:Vv h0 h b fs a T n i) :
   ag Tryz.prog 26 ⟨[.pointer (some ⟨b,0,none⟩)]⟩ h (NZ h0 h b fs a T n):=by
 have hone:D6.one:=by unfold Fm.one;decide
 rcases k with ⟨k,rfl,rfl,e3⟩ | k
 · by_cases ha:a < 16
   · exact (D4 k (nN ha _) (by have:=gs.l;rw [List.length_take];omega)).mono fun u h' ⟨hu,k',x⟩=>⟨⟨D6,false,hu,hone,.inl ⟨rfl,rfl,.inl (.inl ⟨k',rfl,rfl,fun _=>ha⟩)⟩⟩,x⟩
   · rw [xC fs (by omega)] at k
     refine (Gi k (by have:=gs.l;rw [dZ,List.length_append] at this;rw [List.length_take];omega)).mono fun u h' ⟨hu,k',x⟩=>⟨⟨D6,false,hu,hone,.inl ⟨rfl,rfl,.inr ⟨gk,by omega,[],fs,_,rfl,rfl,k',fun _=>⟨?_,fun z=>nomatch z⟩,by simp [nO,iu]⟩⟩⟩,x⟩
     rw [xB fs (by omega),List.take_append_drop]
 · exact (Bb gs er xx k).mono fun u h' ⟨⟨g,ok,hu,h1,e⟩,x⟩=>⟨⟨g,ok,hu,h1,e.elim (fun ⟨e1,e2,k⟩=>.inl ⟨e1,e2,.inl (.inr k)⟩) (fun ⟨e1,_,k⟩=>.inr ⟨e1,k⟩)⟩,x⟩
theorem IJ (gs:tb fs) (er:Er h) (xx:0 < h0.size) (k:Vv h0 h b fs a T n true∨qU h0 h b fs a T n false) :
   ag Tryz.prog 26 ⟨[.pointer (some ⟨b,0,none⟩)]⟩ h fun u h'=>(∃ (g:Fm) (ok:Bool),u=.tuple ⟨[.agg ⟨g.cells⟩,.bool ok]⟩∧g.one∧((ok=false∧Vv h0 h' b fs a T n true)∨(ok=true∧qU h0 h' b fs a T (n+1) false)))∧Ext (sF h0) h h':=by
 have hone:D6.one:=by unfold Fm.one;decide
 rcases k with (⟨k,rfl,rfl,e3⟩ | k) | k
 · have ha:=e3 rfl
   exact (D4 k (nN ha _) (by have:=gs.l;rw [List.length_take];omega)).mono fun u h' ⟨hu,k',x⟩=>⟨⟨D6,false,hu,hone,.inl ⟨rfl,.inl ⟨k',rfl,rfl,fun _=>ha⟩⟩⟩,x⟩
 · exact (Bb gs er xx k).mono fun u h' ⟨⟨g,ok,hu,h1,e⟩,x⟩=>⟨⟨g,ok,hu,h1,e.elim (fun ⟨e1,_,k⟩=>.inl ⟨e1,.inr k⟩) (fun ⟨e1,_,k⟩=>.inr ⟨e1,k⟩)⟩,x⟩
 · exact (Bb gs er xx k).mono fun u h' ⟨⟨g,ok,hu,h1,e⟩,x⟩=>⟨⟨g,ok,hu,h1,e.elim (fun ⟨e1,_,k⟩=>.inl ⟨e1,.inr k⟩) (fun ⟨e1,_,k⟩=>.inr ⟨e1,k⟩)⟩,x⟩
theorem Gm {x:Value} {m:List UInt8} {c:Nat} (gs:tb fs) (k:Vv h0 h b fs a T n i) (hm:m=((dZ fs).drop a).take c) (hr:Rd h x 1 m.length (bA m)) :
   ag Tryz.prog 25 ⟨[.pointer (some ⟨b,0,none⟩),x]⟩ h fun _ h'=>Vv h0 h' b fs (a+c) T n false∧Ext (sF h0) h h':=by
 have hl:=gs.l
 have hml:m.length≤3000:=by rw [hm,List.length_take,List.length_drop];omega
 rcases k with ⟨k,rfl,rfl,e3⟩ | ⟨O,ha,D,R,l,e1,e2,k,e3,e4⟩
 · refine (IE k hr (by rw [List.length_take];omega)).mono fun u h' ⟨k',x⟩=>⟨.inl ⟨?_,rfl,rfl,fun z=>nomatch z⟩,x⟩
   rw [List.take_add,← hm]
   exact k'
 · cases ho:(kG qz D).ov
   · obtain ⟨e5,_⟩:=e3 ho
     have hll:l.length≤3000:=by
       have:=congrArg List.length e5
       have h2:=qL e1
       rw [List.length_append] at this
       omega
     refine (FX k ho hr (by omega)).mono fun u h' ⟨k',x⟩=>⟨.inr ⟨O,by omega,D,R,_,e1,e2,k',fun _=>⟨?_,fun z=>nomatch z⟩,e4⟩,x⟩
     rw [hm,List.append_assoc,← List.drop_drop,List.take_append_drop]
     exact e5
   · obtain ⟨A,cc,rfl,_⟩:=id hr
     exact (xu k ho ⟨_,_,_,rfl⟩).mono fun u h' ⟨k',hz⟩=>by
       subst hz
       exact ⟨.inr ⟨O,by omega,D,R,l,e1,e2,k',fun z=>(by rw [ho] at z;cases z),e4⟩,.refl _ _⟩
theorem Dj.sv (k:Dj h0 h b fs a T n i):Vv h0 h b fs a T n i:=k.imp id fun k=>⟨[],k⟩
theorem Dj.AY (k:Dj h0 h b fs a T n i):Vv h0 h b fs a T n false:=k.sv.AY
theorem Vv.IK (gs:tb fs) (k:Vv h0 h b fs a T n i):T.length≤2063:=by
 rcases k with ⟨_,rfl,_⟩ | ⟨O,ha,D,R,l,e1,e2,k,e3,e4⟩
 · exact Nat.zero_le _
 · have:=nP gs e1
   rw [← e4,List.length_append] at this
   omega
theorem Gp (gs:tb fs) (k:Vv h0 h b fs a T n i) :
   ag Tryz.prog 27 ⟨[.pointer (some ⟨b,0,none⟩)]⟩ h fun u h'=>((u=.tuple ⟨[.agg ⟨[.int .u8 0,.slice none 0 0]⟩,.bool false]⟩∧Dj h0 h' b fs a T n i)∨(∃ (y:Int × List UInt8) (m:Value),u=.tuple ⟨[.agg ⟨[.int .u8 y.1,m]⟩,.bool true]⟩∧Own h' m 5 1 y.2.length (bA y.2)∧Vv h0 h' b fs a (T++[y]) n i))∧Ext (sF h0) h h':=by
 rcases k with ⟨k,rfl,rfl,e3⟩ | ⟨O,ha,D,R,l,e1,e2,k,e3,e4⟩
 · obtain ⟨fb,A,v,k⟩:=k
   exact (lE k.bm).mono fun u h' ⟨e,x⟩=>⟨.inl ⟨e,.inl ⟨⟨fb,A,v,k.aq x⟩,rfl,rfl,e3⟩⟩,x.mono fun _ _ e=>e.elim⟩
 · rcases O with _ | ⟨y,O⟩
   · exact (xy k).mono fun u h' ⟨e,k',x⟩=>⟨.inl ⟨e,.inr ⟨ha,D,R,l,e1,e2,k',e3,e4⟩⟩,x.mono fun _ _ e=>e.elim⟩
   · have hO:O.length≤2063:=by have:=nP gs e1;rw [← e4,List.length_append,List.length_cons] at this;omega
     exact (take_one k (by omega)).mono fun u h' ⟨m,e,ho,k',x⟩=>⟨.inr ⟨y,m,e,ho,.inr ⟨O,ha,D,R,l,e1,e2,k',e3,by rw [← e4];simp⟩⟩,x⟩
theorem Bc {k:Int} {m r:List UInt8} (hm:m.length≤60000):¬ Part 1 (iv k m++r):=fun h=>by
 have hl:=hY k m
 rcases h with h | ⟨_,n,hn,_,h⟩
 · rw [List.length_append] at h;omega
 · rw [nL hm] at hn
   rw [List.length_append] at h
   omega
theorem Dj.fin (gs:tb fs) (k:Dj h0 h b fs a T n true) (ha:a=(dZ fs).length):T=nO fs:=by
 subst ha
 rcases k with ⟨_,_,_,e⟩ | ⟨ha,D,R,l,e1,e2,k,e3,e4⟩
 · have:=e rfl
   have:=dO
   simp only [dZ,List.length_append] at *
   omega
 · rw [List.append_nil] at e4
   rw [e4]
   cases ho:(kG qz D).ov
   · obtain ⟨e5,e6⟩:=e3 ho
     have hp:=e6 rfl
     rw [List.drop_length,List.append_nil] at e5
     rcases R with _ | ⟨f,R⟩
     · rw [e1,List.append_nil]
     · rw [e5,pq] at hp
       have:=kD (gs.g f (by rw [e1];simp)).w
       exact absurd hp (Bc (by omega))
   · unfold nO
     rw [e1,sT,AV _ ho,List.append_nil]
def Bd (T:List (Int × List UInt8)):List UInt8:=T.flatMap fun y=>UInt8.ofNat y.1.toNat :: y.2
theorem Be (T:List (Int × List UInt8)) (y:Int × List UInt8):Bd (T++[y])=Bd T++([UInt8.ofNat y.1.toNat]++y.2):=by simp [Bd]
theorem mD {α β:Type} (f:α→List β) (N:Nat) (l:List α) (h:∀ x∈l,(f x).length≤N):(l.flatMap f).length≤l.length * N:=by
 induction l with
 | nil=>simp
 | cons x l ih =>
   have h1:=h x (List.mem_cons_self ..)
   have h2:=ih fun y hy=>h y (List.mem_cons_of_mem _ hy)
   rw [List.flatMap_cons,List.length_append,List.length_cons,Nat.succ_mul]
   omega
theorem Bg {b:Bk} (h:b.Hn):(eh b).length≤30000000:=by
 have h1:=mD dI 1100 b.row fun c hc=>ng (h.cells c hc)
 have h2:=mD iI 1100 b.cols fun c hc=>nc (h.names c hc)
 have h3:=mD (fun n:Int=>be n 4) 4 b.oids fun c hc=>by rw [bn];exact Nat.le_refl _
 have h4:=rW b.fields 200000 h.texts
 have h5:=h.row
 have h6:=h.cols
 have h7:=h.oids
 have h8:=h.fields
 have h9:=h.tag
 have ha:=h.name
 have hb:=h.value
 unfold eh
 repeat' split
 all_goals simp only [List.length_append,List.length_cons,List.length_nil,bn]
 all_goals omega
theorem mF {p:jb} (h:jh p):∀ y∈eE p,y.2.length≤30000000∧0 < y.1∧y.1≤255:=fun y hy=>by
 unfold eE at hy
 split at hy
 · obtain rfl:=List.mem_singleton.1 hy
   have hk:=h.kind
   unfold Kn at hk
   exact ⟨Bg (jh.of (uD p) h).1,by dsimp only;omega,by dsimp only;omega⟩
 · exact nomatch hy
theorem Bi:∀ y∈gk,y.2.length≤30000000∧0 < y.1∧y.1≤255:=fun y hy=>by
 obtain ⟨p,hp,hy⟩:=List.mem_flatMap.1 hy
 simp only [List.mem_cons,List.not_mem_nil,or_false] at hp
 rcases hp with rfl | rfl | rfl
 · exact mF (lC (by simp [Kn]) (by decide)) y hy
 · exact mF (lC (by simp [Kn]) (by decide)) y hy
 · exact mF (lC (by simp [Kn]) (by decide)) y hy
theorem wg {D R:List Fm} (gs:tb fs) (e:fs=D++R):∀ y∈nO D,y.2.length≤30000000∧0 < y.1∧y.1≤255:=fun y hy=>by
 obtain ⟨_,hm,_,_⟩:=gs.sub e
 unfold nO at hy
 rcases List.mem_append.1 hy with hy | hy
 · exact Bi y hy
 · obtain ⟨p,hp,hy⟩:=List.mem_flatMap.1 hy
   exact mF (hm p hp) y hy
theorem Vv.Bd (gs:tb fs) (k:Vv h0 h b fs a T n i):(Bd T).length≤100000000000:=by
 have hl:=k.IK gs
 have hy:∀ y∈T,y.2.length≤30000000:=by
   rcases k with ⟨_,rfl,_⟩ | ⟨O,ha,D,R,l,e1,e2,k,e3,e4⟩
   · exact fun _ h=>nomatch h
   · exact fun y hy=>(wg gs e1 y (by rw [← e4];exact List.mem_append_left _ hy)).1
 have:=mD (fun y:Int × List UInt8=>UInt8.ofNat y.1.toNat :: y.2) 30000001 T fun y h=>by rw [List.length_cons];have:=hy y h;omega
 unfold Go.Proofs.YtopgddfgefnmbaaGreatDoor.Bd
 omega
theorem Vv.body (gs:tb fs) {y:Int × List UInt8} (k:Vv h0 h b fs a (T++[y]) n i):y.2.length≤30000000∧0 < y.1∧y.1≤255:=by
 rcases k with ⟨_,e,_⟩ | ⟨O,ha,D,R,l,e1,e2,k,e3,e4⟩
 · simp at e
 · exact wg gs e1 y (by rw [← e4];simp)
end
end Go.Proofs.YtopgddfgefnmbaaGreatDoor
