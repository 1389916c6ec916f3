/-
  SEVERAL TEXTS IN ONE: Ck7, Pc1, Pc2, Pk8, Pk9, Pc3, Pc4, Pc5, Pc6, Qv5, Qv6, Qv7, Dp3, Qv8.
-/
import Derived.Test.YtopgddfgefnmbaaGreatDoorPServePieces5
set_option maxHeartbeats 8000000
set_option maxRecDepth 100000
namespace Go.Proofs.YtopgddfgefnmbaaGreatDoor
open Go Go.RK
def Wh (k w:Int):Prop:=(¬ (k=67∨k=68)∧(w=0∨w=83∨w=80))∨((k=67∨k=68)∧(w=83∨w=80))
structure Fm.may (f:Fm):Prop where
 kind:K6 f.kind
 name:bn f.name=true
 bm:bn f.bm=true
 text:bn f.text=true
 aU:∀ n∈f.aU,0≤n∧n≤4294967295
 bX:∀ n∈f.bX,0≤n∧n≤65535
 results:∀ n∈f.results,0≤n∧n≤65535
 params:∀ c∈f.params,c.okB
 what:Wh f.kind f.what
 max : -2147483648≤f.max∧f.max≤2147483647
 own:f.pl=(dN f).pl
theorem mu {h:aj} {v:Value} (l:List Int) (lo hi:Int) (hr:Rd h v 1 l.length (ints l)) (hm:l.length≤65535) :
   ai Tryz.prog 108 ⟨[v,In lo,In hi]⟩ h fun u h'=>u=.bool (decide (∀ n∈l,lo≤n∧n≤hi))∧h'=h:=by
 obtain ⟨A,c,rfl,_⟩:=id hr
 refine calls [(0,_),(1,_),(2,_)] Tryz.func108 rfl Tryz.ntmps108 rfl ⟨rfl,rfl,rfl,trivial⟩ ?_
 refine G2 ?_;refine G3 ?_
 refine aJ 1 2 ?_ TT.mk
 aa (refine ay 2 ?_)
 refine WC.skip ?_;refine Gn ?_;refine Gs [(0,_),(1,_),(2,_)] ?_;refine G3 ?_;refine WC.block ?_;refine WC.bO (X:=Nat) (fun x=>([(7,In (x:Int))]:Fr)) [(0,_),(1,_),(2,_)] (fun k h'=>h'=h∧k≤l.length∧∀ n∈l.take k,lo≤n∧n≤hi) (fun k=>l.length - k) (0) ⟨rfl,rfl,rfl,rfl,trivial⟩ (by exact ⟨rfl,Nat.zero_le _,by simp⟩) ?_
 rintro k h9 ⟨hz,hk,hn⟩
 subst h9
 refine WC.sub [(7,_),(0,_),(1,_),(2,_)] ⟨rfl,rfl,rfl,rfl,trivial⟩ ?_;refine G3 ?_
 refine aJ 3 4 (Hb.mk fun hb=>?_) (Hb.mk fun hb=>?_)
 aa try (
 refine ay 3 ?_
 refine WC.skip ?_
 skip)
 aa try (
 refine ay 4 ?_
 refine WC.exit ?_
 repeat' (ae first | refine aZ ?_ | refine aF rfl ?_ | refine aL ?_ | refine aN ?_ | refine aV ?_)
 refine Br.out (i:=1000) ?_
 skip)
 aa (refine Gn ?_;first | refine Br.ad ?_ | refine Gs [(0,_),(1,_),(2,_),(7,_)] ?_)
 aa (first | refine Br.ad ?_ | refine WC.seq ?_)
 aa (first | refine Br.ad ?_ | refine WC.block ?_)
 aa (first | refine Br.ad ?_ | refine WC.seq ?_)
 aa (
  first
    | (refine Br.ad ?_)
    | (obtain ⟨bL,oL,hA,gx,cX⟩:=Rd.at_ hr (by omega)
       obtain ⟨y,hy⟩:∃ y,l[k]?=some y:=⟨_,List.getElem?_eq_getElem (by omega)⟩
       have r8:cell h ⟨bL,oL+k * 1,none⟩=some (In y):=by rw [Nat.mul_one];exact cX.one (j:=k) (by simp [hy])))
 aa (first | refine Br.ad ?_ | refine WC.region ?_)
 aa (refine Go ?_;first | refine Br.ad ?_ | (refine WL.step (aG Tryz.underlying39 Tryz.sizeOf3 rfl rfl rfl (by omega) (by first | rfl | assumption)) rfl rfl rfl ?_))
 aa (first | refine Br.ad ?_ | (refine WL.ld rfl (by first | exact r8 | assumption) rfl rfl rfl ?_))
 aa (refine Go ?_;first | refine Br.ad ?_ | (refine bU 23 (Hb.mk fun hb=>?_) (Hb.mk fun hb=>?_)))
 aa (refine Gg ?_;first | refine Br.ad ?_ | (first | (refine WL.pass rfl rfl rfl ?_) | (refine WL.step (aG Tryz.underlying39 Tryz.sizeOf3 rfl rfl rfl (by omega) (by first | rfl | assumption)) rfl rfl rfl ?_)))
 aa (first | refine Br.ad ?_ | (first | (refine WL.pass rfl rfl rfl ?_) | (refine WL.ld rfl (by first | exact r8 | assumption) rfl rfl rfl ?_)))
 aa (refine Gg ?_;refine Go ?_;first | refine Br.ad ?_ | refine Gs [(0,_),(1,_),(2,_),(7,_),(30,_)] ?_)
 aa (first | refine Br.ad ?_ | (first | (refine aJ 5 6 ?_ TT.mk) | (refine aJ 5 6 (Hb.mk fun hb=>?_) (Hb.mk fun hb=>?_))))
 aa try (
 refine ay 5 ?_
 aa (refine G2 ?_;refine Gs [(6,_)] ?_;refine Gt ?_)
 aa (
  first
   | exact ⟨congrArg Value.bool (decide_eq_true (by rw [List.take_of_length_le (by omega)] at hn;exact hn)).symm,rfl⟩
   | exact ⟨congrArg Value.bool (decide_eq_false (fun z=>by have:=z _ (List.mem_of_getElem? hy);omega)).symm,rfl⟩)
 skip)
 aa try (
 refine ay 6 ?_
 refine WC.skip ?_
 skip)
 aa (refine Gn ?_;first | refine Br.ad ?_ | refine WC.region ?_)
 aa (refine Go ?_;first | refine Br.ad ?_ | (exact ⟨k+1,⟨rfl,rfl,rfl,rfl,trivial⟩,(by exact ⟨rfl,by omega,tr hy hn (by omega)⟩),(by omega)⟩))
 try (refine Br.mk (i:=1000) ?_)
 refine Gn ?_;refine Gs [] ?_;refine G2 ?_;refine Gt ?_
 first
  | exact ⟨congrArg Value.bool (decide_eq_true (by rw [List.take_of_length_le (by omega)] at hn;exact hn)).symm,rfl⟩
  | exact ⟨congrArg Value.bool (decide_eq_false (fun z=>by have:=z _ (List.mem_of_getElem? hy);omega)).symm,rfl⟩
theorem CE {h:aj} (f:Fm) (hf:f.ok h) (w:f.xA):ai Tryz.prog 63 ⟨[.agg ⟨f.cells⟩]⟩ h fun u h'=>(∃ e,u=In e∧(e=0 ↔ f.may))∧Ext No h h':=by
 have pf:=fun {h':aj} (hx:Ext No h h')=>Ix (h:=h') f (hf.av hx)
 have yj:=fun {h':aj} (hx:Ext No h h')=>E0 (h:=h') f (dN f) (hf.av hx) (ub (hf.av hx))
 have jh:K6 f.kind→(bn f.name && bn f.bm && bn f.text)=true→(decide (∀ n∈f.aU,0≤n∧n≤4294967295) && decide (∀ n∈f.bX,0≤n∧n≤65535) && decide (∀ n∈f.results,0≤n∧n≤65535) && decide (∀ c∈f.params,c.okB))=true→Wh f.kind f.what→(-2147483648≤f.max∧f.max≤2147483647)→f.pl=(dN f).pl→f.may:=fun a1 a2 a3 a9 iy Aw=>by
   simp only [Bool.and_eq_true] at a2
   simp only [Bool.and_eq_true,decide_eq_true_eq] at a3
   exact ⟨a1,a2.1.1,a2.1.2,a2.2,a3.1.1.1,a3.1.1.2,a3.1.2,a3.2,a9,iy,Aw⟩
 have Bi:¬ K6 f.kind→¬ f.may:=fun a z=>a z.kind
 have Lg:(bn f.name && bn f.bm && bn f.text)=false→¬ f.may:=fun a z=>by rw [z.name,z.bm,z.text] at a;cases a
 have Lh:(decide (∀ n∈f.aU,0≤n∧n≤4294967295) && decide (∀ n∈f.bX,0≤n∧n≤65535) && decide (∀ n∈f.results,0≤n∧n≤65535) && decide (∀ c∈f.params,c.okB))=false→¬ f.may:=fun a z=>by rw [decide_eq_true z.aU,decide_eq_true z.bX,decide_eq_true z.results,decide_eq_true z.params] at a;cases a
 have zw:¬ Wh f.kind f.what→¬ f.may:=fun a z=>a z.what
 have Bj:¬ (-2147483648≤f.max∧f.max≤2147483647)→¬ f.may:=fun a z=>a z.max
 have lY:¬ f.pl=(dN f).pl→¬ f.may:=fun a z=>a z.own
 generalize Jd:dN f=ob at pf yj jh lY
 generalize f.may=BM at jh Bi Lg Lh zw Bj lY ⊢
 generalize Je:f.pl=PL at yj jh lY
 obtain ⟨⟨e1,_⟩,⟨e2,_⟩,⟨e3,_⟩,e4⟩:=hf
 obtain ⟨Gj,Gk,Gl,zG,CF,IA,IB,IC⟩:=w
 obtain ⟨fk,w,n,p,t,vo,o,vf,fs,vs,rs,vp,ps,mx⟩:=f
 dsimp only at e1 e2 e3 e4 Gj Gk Gl zG CF IA IB IC jh Bi Lg Lh zw Bj
 obtain ⟨A1,z1,rfl,_⟩:=id e1
 obtain ⟨A2,z2,rfl,_⟩:=id e2
 obtain ⟨A3,z3,rfl,_⟩:=id e3
 obtain ⟨_,⟨_,A4,z4,rfl,_⟩,_⟩:=id e4
 dsimp only [Fm.cells] at pf yj ⊢
 have Li:w=0∨w=83∨w=80∨(w ≠ 0∧w ≠ 83∧w ≠ 80):=by omega
 unfold Wh at jh zw
 refine calls [(0,_)] Tryz.func63 rfl Tryz.ntmps63 rfl ⟨rfl,trivial⟩ ?_
 refine WC.sr ?_;refine WL.al (aI rfl) rfl rfl rfl ?_
 rintro _ g1 ⟨b1,rfl,b0,aT,aB⟩
 refine Go ?_;refine G3 ?_;refine Ld ?_;refine WL.call (vs:=[_]) rfl Tryz.call107 rfl (EZ fk) rfl rfl rfl ?_
 rintro _ h9 ⟨⟨kx,rfl,yl⟩,mQ⟩
 subst h9
 refine Go ?_;refine Gs [(1,_),(9,_)] ?_
 refine aJ 1 2 (Hb.mk fun hb=>?_) (Hb.mk fun hb=>?_)
 aa try (
 refine ay 1 ?_
 refine G2 ?_;refine Gt ?_
 try (have De:=of_decide_eq_true ‹decide (mx < -2147483648)=true›)
 try (have pZ:=of_decide_eq_true ‹decide (2147483647 < mx)=true›)
 try (have QB:=of_decide_eq_false ‹decide (mx < -2147483648)=false›)
 try (have MB:=of_decide_eq_false ‹decide (2147483647 < mx)=false›)
 first
  | (refine ⟨⟨0,rfl,⟨fun _=>?_,fun _=>rfl⟩⟩,mJ.trans cl⟩
     exact jh (yl.1 (by omega)) Jy.symm Jz.symm (by omega) (by omega) (ym.1 rfl))
  | (refine ⟨⟨_,rfl,⟨fun z=>absurd z (by decide),fun z=>absurd z ?_⟩⟩,aB⟩
     first | exact Lg Jy.symm | exact Lh Jz.symm | exact Bi (fun z=>by have:=yl.2 z;omega) | exact zw (by omega) | exact Bj (by omega))
  | (refine ⟨⟨_,rfl,⟨fun z=>absurd z (by decide),fun z=>absurd z ?_⟩⟩,mJ.trans cl⟩
     exact lY (fun z=>Bool.false_ne_true (ym.2 z)))
 skip)
 aa (refine ay 2 ?_)
 refine WC.skip ?_;refine Gn ?_;refine WC.cut (X:=Bool) (fun z=>[(1,.pointer (some ⟨b1,0,none⟩)),(3,.bool z)]) (fun z h'=>z=(bn n && bn p && bn t)∧h'=g1) ?_ ?_
 ·
   refine WC.region (Go ?_);refine Ld ?_;refine WL.call (vs:=[_]) rfl Tryz.call104 rfl ((re n (by omega)).bl) rfl rfl rfl ?_
   rintro _ h9 ⟨⟨rfl,c1⟩ | ⟨rfl,c1⟩,mQ⟩
   aa subst h9
   aa (refine Go ?_;refine bU 13 ?_ TT.mk;refine Gg ?_;first | refine WL.pass rfl rfl rfl ?_ | refine Ld ?_)
   aa (
    first
      | (refine WL.pass rfl rfl rfl ?_)
      | (refine WL.call (vs:=[_]) rfl Tryz.call104 rfl ((re p (by omega)).bl) rfl rfl rfl ?_
         rintro _ h9 ⟨⟨rfl,c2⟩ | ⟨rfl,c2⟩,mQ⟩
         aa subst h9))
   aa (refine Go ?_;refine bU 18 ?_ TT.mk;refine Gg ?_;first | refine WL.pass rfl rfl rfl ?_ | refine Ld ?_)
   aa (
    first
      | (refine WL.pass rfl rfl rfl ?_)
      | (refine WL.call (vs:=[_]) rfl Tryz.call104 rfl ((re t (by omega)).bl) rfl rfl rfl ?_
         rintro _ h9 ⟨⟨rfl,c3⟩ | ⟨rfl,c3⟩,mQ⟩
         aa subst h9))
   aa (refine Go ?_;refine ⟨_,⟨rfl,rfl,trivial⟩,?_⟩;exact ⟨by simp [*],rfl⟩)
 rintro tx h9 ⟨Jy,mQ⟩;subst h9
 refine WC.cut (X:=Bool) (fun z=>[(1,.pointer (some ⟨b1,0,none⟩)),(3,.bool tx),(4,.bool z)]) (fun z h'=>z=(decide (∀ n∈o,0≤n∧n≤4294967295) && decide (∀ n∈fs,0≤n∧n≤65535) && decide (∀ n∈rs,0≤n∧n≤65535) && decide (∀ c∈ps,c.okB))∧h'=g1) ?_ ?_
 ·
   refine WC.region (Go ?_);refine Ld ?_;refine WL.call (vs:=[_,_,_]) rfl Tryz.call108 rfl ((mu o 0 4294967295 (e1.av aB) (by omega)).dec) rfl rfl rfl ?_
   rintro _ h9 ⟨⟨rfl,c4⟩ | ⟨rfl,c4⟩,mQ⟩
   aa subst h9
   aa (refine Go ?_;refine bU 26 ?_ TT.mk;refine Gg ?_;first | refine WL.pass rfl rfl rfl ?_ | refine Ld ?_)
   aa (
    first
      | (refine WL.pass rfl rfl rfl ?_)
      | (refine WL.call (vs:=[_,_,_]) rfl Tryz.call108 rfl ((mu fs 0 65535 (e2.av aB) (by omega)).dec) rfl rfl rfl ?_
         rintro _ h9 ⟨⟨rfl,c5⟩ | ⟨rfl,c5⟩,mQ⟩
         aa subst h9))
   aa (refine Go ?_;refine bU 31 ?_ TT.mk;refine Gg ?_;first | refine WL.pass rfl rfl rfl ?_ | refine Ld ?_)
   aa (
    first
      | (refine WL.pass rfl rfl rfl ?_)
      | (refine WL.call (vs:=[_,_,_]) rfl Tryz.call108 rfl ((mu rs 0 65535 (e3.av aB) (by omega)).dec) rfl rfl rfl ?_
         rintro _ h9 ⟨⟨rfl,c6⟩ | ⟨rfl,c6⟩,mQ⟩
         aa subst h9))
   aa (refine Go ?_;refine bU 36 ?_ TT.mk;refine Gg ?_;first | refine WL.pass rfl rfl rfl ?_ | refine Ld ?_)
   aa (
    first
      | (refine WL.pass rfl rfl rfl ?_)
      | (refine WL.call (vs:=[_]) rfl Tryz.call109 rfl ((Bc ps (e4.av aB) (by omega) (fun c hc=>by have:=CF c hc;omega)).dec) rfl rfl rfl ?_
         rintro _ h9 ⟨⟨rfl,c7⟩ | ⟨rfl,c7⟩,mQ⟩
         aa subst h9))
   aa (refine Go ?_;refine ⟨_,⟨rfl,rfl,rfl,trivial⟩,?_⟩;first | (refine ⟨?_,rfl⟩;rw [decide_eq_false c4];simp;done) | (refine ⟨?_,rfl⟩;rw [decide_eq_false c5];simp;done) | (refine ⟨?_,rfl⟩;rw [decide_eq_false c6];simp;done) | (refine ⟨?_,rfl⟩;rw [decide_eq_false c7];simp;done) | (refine ⟨?_,rfl⟩;rw [decide_eq_true c4,decide_eq_true c5,decide_eq_true c6,decide_eq_true c7];rfl))
 rintro lx h9 ⟨Jz,mQ⟩;subst h9
 refine WC.sr ?_
 rcases Li with Li | Li | Li | Li
 aa (refine WL.step (ag rfl Tryz.underlying42 rfl Tryz.sizeOf5) rfl rfl rfl ?_;refine Ld ?_;refine Go ?_;refine bU 44 ?_ TT.mk;refine Gg ?_;first | refine WL.pass rfl rfl rfl ?_ | refine Ld ?_)
 aa (refine Gg ?_;refine Go ?_;refine bU 49 ?_ TT.mk;refine Gg ?_;first | refine WL.pass rfl rfl rfl ?_ | refine Ld ?_)
 aa (refine Gg ?_;refine Go ?_;refine Gs [(1,_),(3,_),(4,_),(5,_)] ?_;refine G3 ?_;refine Ld ?_;refine Go ?_;refine bU 57 (Hb.mk fun hb=>?_) (Hb.mk fun hb=>?_))
 aa (refine Gg ?_;first | refine WL.pass rfl rfl rfl ?_ | refine Ld ?_)
 aa (refine Gg ?_;refine Go ?_;refine Gs [(1,_),(3,_),(4,_),(5,_),(61,_)] ?_;first | refine aJ 3 4 ?_ TT.mk | (refine aJ 3 4 (Hb.mk fun hb=>?_) (Hb.mk fun hb=>?_)))
 aa try (
 refine ay 3 ?_
 aa (refine WC.region (Go ?_);refine Ld ?_;refine Go ?_;refine bU 65 ?_ TT.mk;refine Gg ?_;first | refine WL.pass rfl rfl rfl ?_ | refine Ld ?_)
 aa (refine Gg ?_;refine Go ?_)
 skip)
 aa try (
 refine ay 4 ?_
 aa (refine WC.skip ?_)
 skip)
 aa (refine Gn ?_;refine WC.seq ?_;refine WC.seq ?_;refine WC.cg (fun h'=>h'[b1]?=some (.cells ⟨[.int .u8 fk,.int .u8 w,St n,St p,St t,.slice A1 o.length z1,.slice A2 fs.length z2,.slice A3 rs.length z3,.slice A4 ps.length z4,In mx]⟩ 42 (0,0))) 27 27 rfl dB ?_)
 aa (
  cases tx
  aa (cases lx))
 aa (refine WH.tk 0 rfl (fun hq hC=>an rfl) rfl rfl rfl ?_ (hC:=(by first | exact ck | exact bP | exact aT));refine WH.tk 1 rfl (fun hq hC=>dI rfl) rfl rfl rfl ?_ (hC:=(by first | exact ck | exact bP | exact aT));refine WH.tk 2 rfl (fun hq hC=>an rfl) rfl rfl rfl ?_ (hC:=(by first | exact ck | exact bP | exact aT));try ((aW (refine WH.part 72 (b:=true) rfl (fun _=>?_) (fun _=>?_)));(aW (refine WH.part 72 (b:=false) rfl (fun _=>?_) (fun _=>?_)));(refine WH.part 72 rfl (fun hb=>?_) (fun hb=>?_))))
 aa (first | (refine WH.ps 3 rfl rfl rfl rfl ?_ (hC:=(by first | exact ck | exact bP | exact aT))) | (refine WH.tk 3 rfl (fun hq hC=>an rfl) rfl rfl rfl ?_ (hC:=(by first | exact ck | exact bP | exact aT))))
 aa (first | (refine WH.ps 4 rfl rfl rfl rfl ?_ (hC:=(by first | exact ck | exact bP | exact aT))) | (refine WH.tk 4 rfl (fun hq hC=>dI rfl) rfl rfl rfl ?_ (hC:=(by first | exact ck | exact bP | exact aT))))
 aa (first | (refine WH.tk 5 rfl (fun hq hC=>cP rfl rfl) rfl rfl rfl ?_ (hC:=(by first | exact ck | exact bP | exact aT))) | (refine WH.tk 5 rfl (fun hq hC=>cQ rfl rfl) rfl rfl rfl ?_ (hC:=(by first | exact ck | exact bP | exact aT))))
 aa (refine WH.tk 6 rfl (fun hq hC=>an rfl) rfl rfl rfl ?_ (hC:=(by first | exact ck | exact bP | exact aT));try ((aW (refine WH.part 76 (b:=true) rfl (fun _=>?_) (fun _=>?_)));(aW (refine WH.part 76 (b:=false) rfl (fun _=>?_) (fun _=>?_)));(refine WH.part 76 rfl (fun hb=>?_) (fun hb=>?_))))
 aa (first | (refine WH.ps 7 rfl rfl rfl rfl ?_ (hC:=(by first | exact ck | exact bP | exact aT))) | (refine WH.tk 7 rfl (fun hq hC=>an rfl) rfl rfl rfl ?_ (hC:=(by first | exact ck | exact bP | exact aT))))
 aa (first | (refine WH.ps 8 rfl rfl rfl rfl ?_ (hC:=(by first | exact ck | exact bP | exact aT))) | (refine WH.tk 8 rfl (fun hq hC=>dI rfl) rfl rfl rfl ?_ (hC:=(by first | exact ck | exact bP | exact aT))))
 aa (first | (refine WH.tk 9 rfl (fun hq hC=>cP rfl rfl) rfl rfl rfl ?_ (hC:=(by first | exact ck | exact bP | exact aT))) | (refine WH.tk 9 rfl (fun hq hC=>cQ rfl rfl) rfl rfl rfl ?_ (hC:=(by first | exact ck | exact bP | exact aT))))
 aa (refine WH.tk 10 rfl (fun hq hC=>an rfl) rfl rfl rfl ?_ (hC:=(by first | exact ck | exact bP | exact aT));try ((aW (refine WH.part 80 (b:=true) rfl (fun _=>?_) (fun _=>?_)));(aW (refine WH.part 80 (b:=false) rfl (fun _=>?_) (fun _=>?_)));(refine WH.part 80 rfl (fun hb=>?_) (fun hb=>?_))))
 aa (first | (refine WH.ps 11 rfl rfl rfl rfl ?_ (hC:=(by first | exact ck | exact bP | exact aT))) | (refine WH.tk 11 rfl (fun hq hC=>ag rfl Tryz.underlying42 rfl Tryz.sizeOf3) rfl rfl rfl ?_ (hC:=(by first | exact ck | exact bP | exact aT))))
 aa (first | (refine WH.ps 12 rfl rfl rfl rfl ?_ (hC:=(by first | exact ck | exact bP | exact aT))) | (refine WH.tk 12 rfl (fun hq hC=>aC Tryz.isAgg3 rfl (ab hC rfl)) rfl rfl rfl ?_ (hC:=(by first | exact ck | exact bP | exact aT))))
 aa (first | (refine WH.ps 13 rfl rfl rfl rfl ?_ (hC:=(by first | exact ck | exact bP | exact aT))) | (refine WH.tk 13 rfl (fun hq hC=>nF rfl rfl) rfl rfl rfl ?_ (hC:=(by first | exact ck | exact bP | exact aT))))
 aa (first | (refine WH.tk 14 rfl (fun hq hC=>cP rfl rfl) rfl rfl rfl ?_ (hC:=(by first | exact ck | exact bP | exact aT))) | (refine WH.tk 14 rfl (fun hq hC=>cQ rfl rfl) rfl rfl rfl ?_ (hC:=(by first | exact ck | exact bP | exact aT))))
 aa (refine WH.tk 15 rfl (fun hq hC=>an rfl) rfl rfl rfl ?_ (hC:=(by first | exact ck | exact bP | exact aT));try ((aW (refine WH.part 85 (b:=true) rfl (fun _=>?_) (fun _=>?_)));(aW (refine WH.part 85 (b:=false) rfl (fun _=>?_) (fun _=>?_)));(refine WH.part 85 rfl (fun hb=>?_) (fun hb=>?_))))
 aa (first | (refine WH.ps 16 rfl rfl rfl rfl ?_ (hC:=(by first | exact ck | exact bP | exact aT))) | (refine WH.tk 16 rfl (fun hq hC=>ag rfl Tryz.underlying42 rfl Tryz.sizeOf3) rfl rfl rfl ?_ (hC:=(by first | exact ck | exact bP | exact aT))))
 aa (first | (refine WH.ps 17 rfl rfl rfl rfl ?_ (hC:=(by first | exact ck | exact bP | exact aT))) | (refine WH.tk 17 rfl (fun hq hC=>aC Tryz.isAgg3 rfl (ab hC rfl)) rfl rfl rfl ?_ (hC:=(by first | exact ck | exact bP | exact aT))))
 aa (first | (refine WH.ps 18 rfl rfl rfl rfl ?_ (hC:=(by first | exact ck | exact bP | exact aT))) | (refine WH.tk 18 rfl (fun hq hC=>nH rfl rfl) rfl rfl rfl ?_ (hC:=(by first | exact ck | exact bP | exact aT))))
 aa (first | (refine WH.tk 19 rfl (fun hq hC=>cP rfl rfl) rfl rfl rfl ?_ (hC:=(by first | exact ck | exact bP | exact aT))) | (refine WH.tk 19 rfl (fun hq hC=>cQ rfl rfl) rfl rfl rfl ?_ (hC:=(by first | exact ck | exact bP | exact aT))))
 aa (refine WH.tk 20 rfl (fun hq hC=>an rfl) rfl rfl rfl ?_ (hC:=(by first | exact ck | exact bP | exact aT));try ((aW (refine WH.part 90 (b:=true) rfl (fun _=>?_) (fun _=>?_)));(aW (refine WH.part 90 (b:=false) rfl (fun _=>?_) (fun _=>?_)));(refine WH.part 90 rfl (fun hb=>?_) (fun hb=>?_))))
 aa (first | (refine WH.ps 21 rfl rfl rfl rfl ?_ (hC:=(by first | exact ck | exact bP | exact aT))) | (refine WH.tk 21 rfl (fun hq hC=>aA Tryz.isAgg42 Tryz.sizeOf42 rfl rfl (by exact At.ax hC)) rfl rfl rfl ?_ (hC:=(by first | exact ck | exact bP | exact aT))))
 aa (first | (refine WH.ps 22 rfl rfl rfl rfl ?_ (hC:=(by first | exact ck | exact bP | exact aT))) | (refine WH.tk 22 rfl (fun hq hC=>aA Tryz.isAgg42 Tryz.sizeOf42 rfl rfl (by exact At.ax hC)) rfl rfl rfl ?_ (hC:=(by first | exact ck | exact bP | exact aT))))
 aa (first
   | (refine WH.ps 23 rfl rfl rfl rfl ?_ (hC:=(by first | exact ck | exact bP | exact aT)))
   | (aa (refine WH.one 23 (by kernel_rfl) ?_)
      aa (refine aE.call (vs:=[_]) rfl rfl Tryz.call111 rfl (pf aB) rfl rfl rfl ?_ (fun _=>by kernel_rfl);rintro _ g8 ⟨rfl,bH⟩;have bP:=bH.obj aT aQ;have mJ:=aB.trans bH;refine ⟨fun _=>bP,?_⟩)
      skip))
 aa (first
   | (refine WH.ps 24 rfl rfl rfl rfl ?_ (hC:=(by first | exact ck | exact bP | exact aT)))
   | (aa (refine WH.one 24 (by kernel_rfl) ?_)
      aa (refine aE.call (vs:=[_,_]) rfl rfl Tryz.call110 rfl (yj mJ) rfl rfl rfl ?_ (fun _=>by kernel_rfl);rintro _ g9 ⟨⟨sx,rfl,ym⟩,cl⟩;have ck:=cl.obj bP aQ;cases sx)
      aa (refine ⟨fun _=>ck,?_⟩)
      skip))
 aa (first | (refine WH.ps 25 rfl rfl rfl rfl ?_ (hC:=(by first | exact ck | exact bP | exact aT))) | (refine WH.tk 25 rfl (fun hq hC=>dI rfl) rfl rfl rfl ?_ (hC:=(by first | exact ck | exact bP | exact aT))))
 aa (first | (refine WH.tk 26 rfl (fun hq hC=>cP rfl rfl) rfl rfl rfl ?_ (hC:=(by first | exact ck | exact bP | exact aT))) | (refine WH.tk 26 rfl (fun hq hC=>cQ rfl rfl) rfl rfl rfl ?_ (hC:=(by first | exact ck | exact bP | exact aT))))
 aa (refine WH.done (by kernel_rfl) ?_;refine Gn ?_;refine Gs [(96,_)] ?_;refine aJ 5 6 ?_ TT.mk)
 aa try (
 refine ay 5 ?_
 aa (refine G2 ?_;refine Gt ?_)
 aa (
  try (have De:=of_decide_eq_true ‹decide (mx < -2147483648)=true›)
  try (have pZ:=of_decide_eq_true ‹decide (2147483647 < mx)=true›)
  try (have QB:=of_decide_eq_false ‹decide (mx < -2147483648)=false›)
  try (have MB:=of_decide_eq_false ‹decide (2147483647 < mx)=false›)
  first
   | (refine ⟨⟨0,rfl,⟨fun _=>?_,fun _=>rfl⟩⟩,mJ.trans cl⟩
      exact jh (yl.1 (by omega)) Jy.symm Jz.symm (by omega) (by omega) (ym.1 rfl))
   | (refine ⟨⟨_,rfl,⟨fun z=>absurd z (by decide),fun z=>absurd z ?_⟩⟩,aB⟩
      first | exact Lg Jy.symm | exact Lh Jz.symm | exact Bi (fun z=>by have:=yl.2 z;omega) | exact zw (by omega) | exact Bj (by omega))
   | (refine ⟨⟨_,rfl,⟨fun z=>absurd z (by decide),fun z=>absurd z ?_⟩⟩,mJ.trans cl⟩
      exact lY (fun z=>Bool.false_ne_true (ym.2 z))))
 skip)
 aa (refine ay 6 ?_;refine WC.skip ?_;refine Gn ?_;refine G2 ?_;refine Gt ?_)
 aa (
  try (have De:=of_decide_eq_true ‹decide (mx < -2147483648)=true›)
  try (have pZ:=of_decide_eq_true ‹decide (2147483647 < mx)=true›)
  try (have QB:=of_decide_eq_false ‹decide (mx < -2147483648)=false›)
  try (have MB:=of_decide_eq_false ‹decide (2147483647 < mx)=false›)
  first
   | (refine ⟨⟨0,rfl,⟨fun _=>?_,fun _=>rfl⟩⟩,mJ.trans cl⟩
      exact jh (yl.1 (by omega)) Jy.symm Jz.symm (by omega) (by omega) (ym.1 rfl))
   | (refine ⟨⟨_,rfl,⟨fun z=>absurd z (by decide),fun z=>absurd z ?_⟩⟩,aB⟩
      first | exact Lg Jy.symm | exact Lh Jz.symm | exact Bi (fun z=>by have:=yl.2 z;omega) | exact zw (by omega) | exact Bj (by omega))
   | (refine ⟨⟨_,rfl,⟨fun z=>absurd z (by decide),fun z=>absurd z ?_⟩⟩,mJ.trans cl⟩
      exact lY (fun z=>Bool.false_ne_true (ym.2 z))))
theorem uc {n:Int} {s:Nat} (h0:0≤n) (h1:n < 256 ^ s):∀ k,k≤s→iN (lH n s k)=n / 256 ^ (s - k)
 | 0,_=>by
   rw [Nat.sub_zero,Int.ediv_eq_zero_of_lt h0 h1]
   rfl
 | k+1,hk=>by
   have e:s - k=(s - 1 - k)+1:=by omega
   have ih:=uc h0 h1 k (by omega)
   rw [lH,lR,ih,Ah,show s - (k+1)=s - 1 - k by omega,e,Int.pow_succ,← Int.ediv_ediv_of_nonneg (by have:(0:Int) < 256 ^ (s - 1 - k):=Int.pow_pos (by decide);omega)]
   omega
theorem rO {n:Int} {s:Nat} (h0:0≤n) (h1:n < 256 ^ s):iN (be n s)=n:=by
 unfold be
 rw [uc h0 h1 s (Nat.le_refl _),Nat.sub_self,Int.pow_zero,Int.ediv_one]
theorem xC {h:aj} {s:Nat} (hs:Sz s):ai Tryz.prog 180 ⟨[In s]⟩ h fun u h'=>u=.bool true∧h'=h:=by
 rcases hs with rfl | rfl | rfl
 aa
   refine calls [(0,_)] Tryz.func180 rfl Tryz.ntmps180 rfl ⟨rfl,trivial⟩ ?_
   aa (refine G2 ?_;refine G3 ?_;refine WC.block ?_;refine G3 ?_;refine aJ 1 2 ?_ TT.mk)
   aa try (
   refine ay 1 ?_
   aa (refine WC.skip ?_)
   skip)
   aa try (
   refine ay 2 ?_
   aa (refine G2 ?_;refine Gs [(3,_),(4,_)] ?_;refine aJ 3 4 ?_ TT.mk)
   aa try (
   refine ay 3 ?_
   aa (refine WC.skip ?_)
   skip)
   aa try (
   refine ay 4 ?_
   aa (refine WC.region (Go ?_))
   skip)
   skip)
   aa (refine Gn ?_;refine aJ 5 6 ?_ TT.mk;refine ay 5 ?_;refine G2 ?_;refine Gt ?_;exact ⟨rfl,rfl⟩)
theorem Lj {h:aj} {A:Option Addr} {c:Nat} {s:Nat} (hz:Sz s) (l:List UInt8) (hr:Rd h (.slice A l.length c) 1 l.length (bK l)) (k:Nat) (hl:k+s≤l.length) (hm:l.length≤1000000) :
   ai Tryz.prog 176 ⟨[.slice A l.length c,In (k:Int),In s]⟩ h fun u h'=>u=.tuple ⟨[In (iN ((l.drop k).take s)),In 0]⟩∧h'=h:=by
 have kz:=fun h'=>xC (h:=h') hz
 have x7:1≤s∧s≤4:=by unfold Sz at hz;omega
 have fS:l.length≤c:=by
   obtain ⟨A1,c1,hv,fS,_⟩:=id hr
   simp only [Value.slice.injEq] at hv
   obtain ⟨_,_,rfl⟩:=hv
   exact fS
 have hs:=(hr.drop (l:=k) (by omega)).take (k:=s) (by omega)
 have uP:((l.drop k).take s).length=s:=by simp;omega
 have DJ:((bK l).drop (k * 1)).take (s * 1)=bK ((l.drop k).take s):=by simp [bK]
 rw [DJ] at hs
 generalize (l.drop k).take s=m at *
 refine calls [(0,_),(1,_),(2,_)] Tryz.func176 rfl Tryz.ntmps176 rfl ⟨rfl,rfl,rfl,trivial⟩ ?_
 refine G2 ?_;refine WC.seq ?_;refine WC.block ?_;refine G3 ?_;refine WL.call (vs:=[_]) rfl Tryz.call180 rfl (kz _) rfl rfl rfl ?_
 rintro _ hz ⟨rfl,_⟩
 subst hz
 refine Go ?_;refine Gs [(0,_),(1,_),(2,_),(11,_)] ?_
 refine aJ 1 2 ?_ TT.mk
 aa (refine ay 2 ?_)
 refine WC.region (Go ?_);refine Gn ?_
 refine aJ 3 4 ?_ TT.mk
 aa (refine ay 4 ?_)
 refine G3 ?_;refine Gs [(0,_),(1,_),(2,_),(17,_)] ?_
 refine aJ 5 6 ?_ TT.mk
 aa (refine ay 6 ?_)
 refine WC.region (Go ?_);refine Gn ?_
 refine aJ 7 8 ?_ TT.mk
 aa (refine ay 8 ?_)
 refine WC.skip ?_;refine Gn ?_;refine G2 ?_;refine G3 ?_;refine WL.step (dk (l:=k) (k:=k+s) Tryz.underlying23 Tryz.sizeOf5 rfl rfl rfl (by omega)) rfl rfl rfl ?_
 rw [show k+s - k=s by omega]
 generalize (if c=k then A else A.map (·.add (k * 1)))=S at *
 refine Go ?_;refine Gs [(8,_),(33,_),(34,_),(35,_)] ?_;refine WC.block ?_;refine WC.bO (X:=Nat × Int) (fun x=>([(35,In (x.1:Int)),(8,In x.2)]:Fr)) [(33,_),(34,_)] (fun x h'=>h'=h∧x.1≤s∧x.2=iN (m.take x.1)∧0≤x.2∧x.2+1≤256 ^ x.1) (fun x=>s - x.1) ((0,0)) ⟨rfl,rfl,rfl,rfl,trivial⟩ (by exact ⟨rfl,by simp,rfl,by simp,by simp⟩) ?_
 rintro ⟨j,n⟩ h1 ⟨jw,hj,hn,GW,DS⟩
 dsimp only at hj hn GW DS
 subst jw
 refine WC.sub [(8,_),(35,_),(33,_),(34,_)] ⟨rfl,rfl,rfl,rfl,trivial⟩ ?_
 dsimp only
 refine G2 ?_;refine WC.seq ?_
 refine aJ 9 10 (Hb.mk fun hb=>?_) (Hb.mk fun hb=>?_)
 aa try (
 refine ay 9 ?_
 refine WC.skip ?_
 skip)
 aa try (
 refine ay 10 ?_
 refine WC.exit ?_
 repeat' (ae first | refine aZ ?_ | refine aF rfl ?_ | refine aL ?_ | refine aN ?_ | refine aV ?_)
 refine Br.out (i:=1001) ?_
 skip)
 aa (refine Gn ?_;first | refine Br.ad ?_ | refine WC.seq ?_)
 aa (first | refine Br.ad ?_ | refine WC.block ?_)
 aa (first | refine Br.ad ?_ | refine WC.sr ?_)
 aa (
  first
    | (refine Br.ad ?_)
    | (obtain ⟨bL,oL,hA,gx,cX⟩:=Rd.at_ hs (by omega)
       obtain ⟨y,hy⟩:∃ y,m[j]?=some y:=⟨_,List.getElem?_eq_getElem (by omega)⟩
       have fH:=cX.get (p:=oL+j * 1) j (show (bK m)[j]?=some (By y) by simp [bK,hy]) (by omega)
       have GX:=qK (show j≤3 by omega)
       have FT:=y.toNat_lt))
 aa (first | refine Br.ad ?_ | (refine WL.step (aG Tryz.underlying23 Tryz.sizeOf5 rfl rfl rfl (by omega) (by first | rfl | assumption)) rfl rfl rfl ?_))
 aa (first | refine Br.ad ?_ | (refine WL.ld rfl (by first | exact fH | assumption) rfl rfl rfl ?_))
 aa (refine Go ?_;first | refine Br.ad ?_ | refine WC.region ?_)
 aa (refine Go ?_;first | refine Br.ad ?_ | (refine WL.step (wM rfl rfl (by decide) (by rw [show (2:Int) ^ ((8:Int)).toNat=256 from rfl];constructor <;> omega)) rfl rfl rfl ?_))
 aa (first | refine Br.ad ?_ | rw [show (2:Int) ^ ((8:Int)).toNat=256 from rfl])
 aa (refine Go ?_;first | refine Br.ad ?_ | (refine WL.step (kW Tryz.underlying5 Tryz.underlying3 rfl (by omega)) rfl rfl rfl ?_))
 aa (first | refine Br.ad ?_ | refine WL.step (FP rfl rfl) rfl rfl rfl ?_)
 aa (first | refine Br.ad ?_ | (rw [wN ⟨by omega,by omega⟩ ⟨by omega,by omega⟩]))
 aa (refine Go ?_;first | refine Br.ad ?_ | refine Gs [(8,_),(33,_),(34,_),(35,_)] ?_)
 aa (first | refine Br.ad ?_ | refine WC.region ?_)
 aa (refine Go ?_;first | refine Br.ad ?_ | (exact ⟨(j+1,_),⟨rfl,rfl,rfl,rfl,trivial⟩,(by exact ⟨rfl,by omega,by rw [List.take_add_one,hy,Option.toList_some,lR,← hn],by omega,by rw [Int.pow_succ];omega⟩),(by simp;omega)⟩))
 try (refine Br.mk (i:=1001) ?_)
 refine Gn ?_;refine Gs [(8,_)] ?_;refine G2 ?_;refine Gt ?_
 first | exact ⟨by rw [hn,List.take_of_length_le (by omega)],rfl⟩ | (exfalso;omega)
def SO (v v':Value):Prop:=∀ q,v'.ownBlock=some q→v.ownBlock=some q
theorem SO.refl (v:Value):SO v v:=fun _ h=>h
theorem SO.trans {a b c:Value} (x:SO a b) (y:SO b c):SO a c:=fun q h=>x q (y q h)
section
variable {h h':aj} {b:Nat} {v:Value} {l:List UInt8}
theorem rP (k:Sc h b v l) (n:Nat) (hn:n≤l.length) (hm:l.length≤1000000):ai Tryz.prog 175 ⟨[.pointer (some ⟨b,0,none⟩),In (n:Int)]⟩ h fun u h'=>∃ A c v',u=.tuple ⟨[.slice A n c,.bool true]⟩∧Rd h' (.slice A n c) 1 n (bK (l.take n))∧Sc h' b v' (l.drop n)∧Ext (fun q=>q=b) h h'∧SO v v':=by
 have kg:=fun (h':aj) (k:Sc h' b v l)=>jy k
 have hb:=k.bB
 have hr:=k.rd
 have ep:=k.ne
 obtain ⟨A,c,rfl,fS,_⟩:=id hr
 refine calls [(0,_),(1,_)] Tryz.func175 rfl Tryz.ntmps175 rfl ⟨rfl,rfl,trivial⟩ ?_
 refine G2 ?_;refine G3 ?_;refine WL.call (vs:=[_]) rfl Tryz.call132 rfl (kg _ k) rfl rfl rfl ?_
 rintro _ hq ⟨rfl,hz⟩
 replace hz:=hz.symm
 subst hz
 refine Go ?_
 refine bU 10 ?_ TT.mk
 refine Gg ?_;refine Go ?_
 refine bU 14 ?_ TT.mk
 refine Gg ?_;refine WL.step (ah rfl) rfl rfl rfl ?_;refine Gg ?_;refine WL.ld rfl (by first | exact ab hb rfl | assumption) rfl rfl rfl ?_
 refine Gg ?_;refine Go ?_;refine Gs [(0,_),(1,_),(22,_)] ?_
 refine aJ 1 2 ?_ TT.mk
 aa (refine ay 2 ?_)
 refine WC.skip ?_;refine Gn ?_;refine G2 ?_;refine WL.step (ah rfl) rfl rfl rfl (Go ?_);refine WL.ld rfl (by first | exact ab hb rfl | assumption) rfl rfl rfl (Go ?_)
 refine WL.step (fD Tryz.underlying23 Tryz.sizeOf5 rfl rfl rfl (by omega)) rfl rfl rfl (Go ?_)
 refine Gs [(0,_),(1,_),(6,_)] ?_;refine G2 ?_;refine WL.step (ah rfl) rfl rfl rfl (Go ?_);refine WL.ld rfl (by first | exact ab hb rfl | assumption) rfl rfl rfl (Go ?_)
 refine WL.step (dY Tryz.underlying23 Tryz.sizeOf5 rfl rfl (by omega)) rfl rfl rfl ?_
 refine WL.step (ah rfl) rfl rfl rfl (Go ?_);refine WL.az (aD Tryz.sizeOf23 rfl rfl hb (Nat.le_of_ble_eq_true rfl) rfl rfl) rfl rfl ?_
 rintro _ h2 ⟨bR,aK⟩
 refine Gn ?_;refine Gs [(6,_)] ?_;refine G2 ?_;refine Gt ?_
 have r1:=Rd.AD (hr.take hn)
 have r2:=hr.drop hn
 rw [show (bK l).take (n * 1)=bK (l.take n) by simp [bK]] at r1
 rw [show (bK l).drop (n * 1)=bK (l.drop n) by simp [bK]] at r2
 have n2:∀ q,(Value.slice (if c=n then A else A.map (fun x=>x.add (n * 1))) (l.length - n) (c - n)).ownBlock=some q→q ≠ b:=fun q hq=>ep q (qS hq)
 exact ⟨A,n,_,rfl,r1.ext aK (fun q hq=>ep q (AE hq)),⟨bR,by rw [List.length_drop];exact r2.ext aK n2,n2⟩,aK,fun q hq=>qS hq⟩
theorem CG (s r:List UInt8) (hs:Lib.indexByte (s++0 :: r) 0=s.length) (k:Sc h b v (s++0 :: r)) (hm:(s++0 :: r).length≤1000000):ai Tryz.prog 128 ⟨[.pointer (some ⟨b,0,none⟩)]⟩ h fun u h'=>∃ v',u=St s∧Sc h' b v' r∧Ext (fun q=>q=b) h h'∧SO v v':=by
 have kg:=fun (h':aj) (k:Sc h' b v (s++0 :: r))=>jy k
 have kc:=fun (h':aj) (k:Sc h' b v (s++0 :: r))=>rP k (s.length+1) (by simp) hm
 have hb:=k.bB
 have ki:=dM _ 0 k.rd (by simp;omega)
 rw [hs] at ki
 have e1:(s++0 :: r).drop (s.length+1)=r:=by rw [List.drop_append];simp
 have e2:(s++0 :: r).take (s.length+1)=s++[0]:=by rw [List.take_append,List.take_of_length_le (by omega)];simp
 rw [e1,e2] at kc
 have DV:s.length+1≤1000000:=by simp at hm;omega
 refine calls [(0,_)] Tryz.func128 rfl Tryz.ntmps128 rfl ⟨rfl,trivial⟩ ?_
 refine G2 ?_;refine G3 ?_;refine WL.call (vs:=[_]) rfl Tryz.call132 rfl (kg _ k) rfl rfl rfl ?_
 rintro _ hq ⟨rfl,hz⟩
 replace hz:=hz.symm
 subst hz
 refine Go ?_
 refine aJ 1 2 ?_ TT.mk
 aa (refine ay 2 ?_)
 refine WC.skip ?_;refine Gn ?_;refine Gs [(0,_)] ?_;refine G2 ?_;refine WL.step (ah rfl) rfl rfl rfl (Go ?_);refine WL.ld rfl (by first | exact ab hb rfl | assumption) rfl rfl rfl ?_
 refine WL.call (vs:=[_,_]) rfl Tryz.call126 rfl (ki) rfl rfl rfl ?_
 rintro _ hq ⟨rfl,hz⟩
 replace hz:=hz.symm
 subst hz
 refine Go ?_;refine Gs [(0,_),(3,_)] ?_;refine G3 ?_
 refine aJ 3 4 ?_ TT.mk
 aa (refine ay 4 ?_)
 refine WC.skip ?_;refine Gn ?_;refine G2 ?_
 rw [show ((s.length:Int)+1)=((s.length+1:Nat):Int) from rfl]
 refine WL.call (vs:=[_,_]) rfl Tryz.call175 rfl (kc _ k) rfl rfl rfl ?_
 rintro _ h2 ⟨A2,c2,v2,rfl,r2,k2,aK,E1⟩
 have r3:=r2.take (k:=s.length) (by omega)
 rw [show (bK (s++[0])).take (s.length * 1)=bK s by simp [bK]] at r3
 have fS:s.length+1≤c2:=by obtain ⟨A1,c1,hv,fS,_⟩:=id r2;simp only [Value.slice.injEq] at hv;obtain ⟨_,_,rfl⟩:=hv;exact fS
 refine Go ?_;refine Gs [(3,_),(4,_)] ?_;refine G2 ?_;refine WL.step (mB Tryz.underlying23 Tryz.sizeOf5 rfl rfl (by omega)) rfl rfl rfl ?_
 refine WL.step (dZ Tryz.underlying23 Tryz.underlying5 Tryz.underlying9 rfl r3) rfl rfl rfl (Go ?_);refine Gs [(2,_)] ?_;refine Gt ?_
 exact ⟨_,rfl,k2,aK,E1⟩
theorem jF {n:Int} {s:Nat} (hz:Sz s) (h0:0≤n) (h1:n < 256 ^ s) (r:List UInt8) (k:Sc h b v (be n s++r)) (hm:(be n s++r).length≤1000000):ai Tryz.prog 122 ⟨[.pointer (some ⟨b,0,none⟩),In s]⟩ h fun u h'=>∃ v',u=In n∧Sc h' b v' r∧Ext (fun q=>q=b) h h'∧SO v v':=by
 have I8:s≤(be n s++r).length:=by rw [List.length_append,bA];omega
 have et:(be n s++r).take s=be n s:=by exact List.take_left' (bA n s)
 have ed:(be n s++r).drop s=r:=by exact List.drop_left' (bA n s)
 have kc:=fun (h':aj) (k:Sc h' b v (be n s++r))=>rP k s I8 hm
 have kr:=fun (h':aj)=>qJ (h:=h') 0 s hz (by unfold Rt;rcases hz with rfl | rfl | rfl <;> decide)
 have kn:=fun (h':aj) (A:Option Addr) (c:Nat) (r':Rd h' (.slice A s c) 1 s (bK (be n s)))=>Lj hz (be n s) (A:=A) (c:=c) (by rw [bA];exact r') 0 (by rw [bA];omega) (by rw [bA];unfold Sz at hz;omega)
 rw [et,ed] at kc
 simp only [bA,List.drop_zero,List.take_of_length_le (Nat.le_of_eq (bA n s)),rO h0 h1] at kn
 refine calls [(0,_),(1,_)] Tryz.func122 rfl Tryz.ntmps122 rfl ⟨rfl,rfl,trivial⟩ ?_
 refine G2 ?_;refine G3 ?_;refine WL.call (vs:=[_,_]) rfl Tryz.call173 rfl (kr _) rfl rfl rfl ?_
 rintro _ hq ⟨rfl,hz⟩
 replace hz:=hz.symm
 subst hz
 refine Go ?_
 refine aJ 1 2 ?_ TT.mk
 aa (refine ay 2 ?_)
 refine WC.skip ?_;refine Gn ?_;refine Gs [(0,_),(1,_)] ?_;refine G2 ?_;refine WL.call (vs:=[_,_]) rfl Tryz.call175 rfl (kc _ k) rfl rfl rfl ?_
 rintro _ h2 ⟨A2,c2,v2,rfl,r2,k2,aK,E1⟩
 refine Go ?_;refine Gs [(0,_),(1,_),(5,_),(6,_)] ?_;refine G3 ?_
 refine aJ 3 4 ?_ TT.mk
 aa (refine ay 4 ?_)
 refine WC.skip ?_;refine Gn ?_;refine G2 ?_;refine WL.call (vs:=[_,_,_]) rfl Tryz.call176 rfl (kn _ _ _ r2) rfl rfl rfl ?_
 rintro _ hq ⟨rfl,hz⟩
 replace hz:=hz.symm
 subst hz
 refine Go ?_;refine Gs [(0,_),(7,_),(8,_)] ?_;refine G3 ?_
 refine aJ 5 6 ?_ TT.mk
 aa (refine ay 6 ?_)
 refine WC.skip ?_;refine Gn ?_;refine Gs [(7,_)] ?_;refine G2 ?_;refine Gt ?_
 exact ⟨_,rfl,k2,aK,E1⟩
theorem CH {s r:List UInt8} (hc:bn s=true):Lib.indexByte (s++0 :: r) 0=s.length:=by
 induction s with
 | nil=>rfl
 | cons a s ih =>
   have h1:a ≠ 0∧bn s=true:=by
     simp only [bn,List.contains_cons,Bool.not_or,Bool.and_eq_true,Bool.not_eq_true'] at hc
     exact ⟨fun e=>by subst e;simp at hc,by simp only [bn,hc.2,Bool.not_false]⟩
   have e:=ih h1.2
   rw [List.cons_append,Lib.indexByte,if_neg (by simpa using h1.1),e,if_neg (by simp),List.length_cons]
   omega
theorem gb {s r:List UInt8} (hc:bn s=true) (k:Sc h b v (s++[0]++r)) (hm:(s++[0]++r).length≤1000000):ai Tryz.prog 128 ⟨[.pointer (some ⟨b,0,none⟩)]⟩ h fun u h'=>∃ v',u=St s∧Sc h' b v' r∧Ext (fun q=>q=b) h h'∧SO v v':=by
 rw [List.append_assoc] at k hm
 exact CG s r (CH hc) k hm
theorem CI {s r:List UInt8} (k:Sc h b v (s++r)) (hm:(s++r).length≤1000000):ai Tryz.prog 179 ⟨[.pointer (some ⟨b,0,none⟩),In (s.length:Int)]⟩ h fun u h'=>∃ v',Own h' u 5 1 s.length (bK s)∧Sc h' b v' r∧Ext (fun q=>q=b) h h'∧SO v v'∧∀ q,u.ownBlock=some q→h.size≤q:=by
 have et:(s++r).take s.length=s:=List.take_left' rfl
 have ed:(s++r).drop s.length=r:=List.drop_left' rfl
 have kc:=fun (h':aj) (k:Sc h' b v (s++r))=>rP k s.length (by simp) hm
 rw [et,ed] at kc
 refine calls [(0,_),(1,_)] Tryz.func179 rfl Tryz.ntmps179 rfl ⟨rfl,rfl,trivial⟩ ?_
 refine G2 ?_;refine G2 ?_;refine WL.call (vs:=[_,_]) rfl Tryz.call175 rfl (kc _ k) rfl rfl rfl ?_
 rintro _ h2 ⟨A2,c2,v2,rfl,r2,k2,aK,E1⟩
 refine Go ?_;refine Gs [(5,_)] ?_;refine G2 ?_;refine WL.call (vs:=[_]) rfl Tryz.call127 rfl (j8 s r2 (by simp at hm;omega)) rfl rfl rfl ?_
 rintro v3 h3 ⟨ee,aS,im⟩
 refine Go ?_;refine Gt ?_
 exact ⟨_,ee,k2.ext aS aQ (fun _ _=>aQ),aK.trans (aS.mono fun _ _ e=>e.elim),E1,fun q hq=>by have:=im q hq;have:=aK.size;omega⟩
end
section
variable {h h':aj} {b:Nat} {v:Value} {l:List UInt8}
theorem CJ (k:Sc h b v l):ai Tryz.prog 178 ⟨[.pointer (some ⟨b,0,none⟩)]⟩ h fun u h'=>u=.bool false∧h'=h:=by
 have kg:=jy k
 refine calls [(0,_)] Tryz.func178 rfl Tryz.ntmps178 rfl ⟨rfl,trivial⟩ ?_
 refine G2 ?_;refine G2 ?_;refine WL.call (vs:=[_]) rfl Tryz.call132 rfl (kg) rfl rfl rfl ?_
 rintro _ hq ⟨rfl,hz⟩
 replace hz:=hz.symm
 subst hz
 refine Go ?_;refine Gs [(2,_)] ?_;refine Gt ?_
 exact ⟨rfl,rfl⟩
def dO (s:Nat) (L:List Int):List UInt8:=L.flatMap fun n=>be n s
theorem qj {s:Nat} {L:List Int} {k:Nat} {y:Int} (hy:L[k]?=some y):dO s (L.drop k)=be y s++dO s (L.drop (k+1)):=by
 obtain ⟨eH,rfl⟩:=List.getElem?_eq_some_iff.1 hy
 have e:L.drop k=L[k] :: L.drop (k+1):=List.drop_eq_getElem_cons eH
 unfold dO
 rw [e,List.flatMap_cons]
theorem cL (s:Nat) (L:List Int):(dO s L).length=L.length * s:=by
 induction L with
 | nil=>simp [dO]
 | cons a L ih=>rw [show dO s (a :: L)=be a s++dO s L by simp [dO],List.length_append,bA,ih,List.length_cons,Nat.succ_mul];omega
theorem rQ {s:Nat} (hz:Sz s) (L:List Int) (hn:∀ n∈L,0≤n∧n < 256 ^ s) (hl:L.length≤65535) (r:List UInt8) (k:Sc h b v (be L.length 2++(dO s L++r))) (hv:∀ q,v.ownBlock=some q→q < h.size) (hm:(be L.length 2++(dO s L++r)).length≤1000000) :
   ai Tryz.prog 129 ⟨[.agg ⟨[.pointer (some ⟨b,0,none⟩)]⟩,In s]⟩ h fun u h'=>∃ v',Own h' u 3 1 L.length (ints L)∧Sc h' b v' r∧Ext (fun q=>q=b) h h'∧SO v v'∧∀ q,u.ownBlock=some q→h.size≤q:=by
 have kn:=fun (g:aj) (v:Value) (n:Int) (r:List UInt8)=>jF (h:=g) (b:=b) (v:=v) (n:=n) (s:=s) hz (r:=r)
 have QC:=ak k.bB
 have uP:(dO s L++r).length≤1000000:=by rw [List.length_append] at hm;omega
 refine calls [(0,_),(1,_)] Tryz.func129 rfl Tryz.ntmps129 rfl ⟨rfl,rfl,trivial⟩ ?_
 refine WC.sr ?_;refine WL.al (aI rfl) rfl rfl rfl ?_
 rintro _ h1 ⟨b1,rfl,b0,aT,aB⟩
 have n1:b1 ≠ b:=by omega
 refine Go ?_;refine G2 ?_;refine G3 ?_;refine WL.ld rfl (by first | exact ab aT rfl | assumption) rfl rfl rfl ?_
 refine WL.call (vs:=[_,_]) rfl Tryz.call122 rfl (jF (s:=2) (.inr (.inl rfl)) (by omega) (by omega) _ (k.ext aB aQ (fun _ _=>aQ)) hm) rfl rfl rfl ?_
 rintro _ h2 ⟨v2,rfl,k2,aK,E1⟩
 have ca:=aK.obj aT n1
 have X2:Ext (fun q=>q=b) h h2:=(aB.mono fun _ _ e=>e.elim).trans aK
 refine Go ?_;refine Gs [(1,_),(2,_),(5,_),(6,_)] ?_;refine WC.block ?_;refine WC.bO (X:=Nat × Value × Value) (fun x=>([(6,In ((L.length - x.1:Nat):Int)),(5,x.2.1)]:Fr)) [(1,_),(2,_)] (fun x h'=>x.1≤L.length∧Sc h' b x.2.2 (dO s (L.drop x.1)++r)∧Own h' x.2.1 3 1 x.1 (ints (L.take x.1))∧Ext (fun q=>q=b) h2 h'∧SO v x.2.2∧∀ q,x.2.1.ownBlock=some q→h2.size≤q) (fun x=>L.length - x.1) ((0,.slice none 0 0,v2)) ⟨rfl,rfl,rfl,rfl,trivial⟩ (by exact ⟨Nat.zero_le _,k2,Own.nil _ _ _,.refl _ _,E1,fun _ e=>by cases e⟩) ?_
 rintro ⟨j,u,w⟩ h3 ⟨hj,k3,ee,aS,E2,im⟩
 dsimp only at hj k3 ee im
 have cE:=aS.obj ca n1
 have s1:=aB.size
 have s2:=aK.size
 have s3:=aS.size
 refine WC.sub [(5,_),(6,_),(1,_),(2,_)] ⟨rfl,rfl,rfl,rfl,trivial⟩ ?_
 dsimp only
 refine G3 ?_
 refine bU 12 (Hb.mk fun hb=>?_) (Hb.mk fun hb=>?_)
 aa (refine Gg ?_;first | refine WL.pass rfl rfl rfl ?_ | (refine WL.ld rfl (by first | exact ab cE rfl | assumption) rfl rfl rfl ?_))
 aa (
  first
    | (refine WL.pass rfl rfl rfl ?_)
    | (refine WL.call (vs:=[_]) rfl Tryz.call178 rfl (CJ k3) rfl rfl rfl ?_
       rintro _ hq ⟨rfl,mQ⟩
       replace mQ:=mQ.symm
       subst mQ))
 aa (refine Gg ?_;refine Go ?_;refine Gs [(1,_),(2,_),(5,_),(6,_),(17,_)] ?_;refine aJ 1 2 ?_ TT.mk)
 aa try (
 refine ay 1 ?_
 refine WC.skip ?_
 skip)
 aa try (
 refine ay 2 ?_
 refine WC.exit ?_
 repeat' (ae first | refine aZ ?_ | refine aF rfl ?_ | refine aL ?_ | refine aN ?_ | refine aV ?_)
 refine Br.out (i:=1000) ?_
 skip)
 aa (refine Gn ?_;first | refine Br.ad ?_ | refine WC.seq ?_)
 aa (first | refine Br.ad ?_ | refine WC.block ?_)
 aa (first | refine Br.ad ?_ | refine WC.region ?_)
 aa (
  first
    | (refine Br.ad ?_)
    | (obtain ⟨y,hy⟩:∃ y,L[j]?=some y:=⟨_,List.getElem?_eq_getElem (by omega)⟩
       have Mo:=hn y (List.mem_of_getElem? hy)
       rw [qj hy,List.append_assoc] at k3
       have S5:(be y s++(dO s (L.drop (j+1))++r)).length≤1000000:=by
        have e1:=congrArg List.length (qj (s:=s) hy)
        have e2:=cL s (L.drop j)
        have e3:=cL s L
        have e4:(L.drop j).length * s≤L.length * s:=Nat.mul_le_mul_right s (by simp)
        simp only [List.length_append] at e1 uP ⊢
        omega))
 aa (first | refine Br.ad ?_ | refine WL.step (an rfl) rfl rfl rfl ?_)
 aa (refine Go ?_;first | refine Br.ad ?_ | (refine WL.ld rfl (by first | exact ab cE rfl | assumption) rfl rfl rfl ?_))
 aa (refine Go ?_)
 aa (
  first
    | (refine Br.ad ?_)
    | (refine WL.call (vs:=[_,_]) rfl Tryz.call122 rfl (kn _ _ _ _ Mo.1 Mo.2 k3 S5) rfl rfl rfl ?_
       rintro _ h4 ⟨v4,rfl,k4,bh,JA⟩))
 aa (
  first
    | (refine Br.ad ?_)
    | (refine WL.al (aw (vs:=[_]) (cs:=[_]) (fun | [a0]=>[a0] | _=>[]) Tryz.underlying39 rfl rfl (by kernel_rfl)) rfl rfl rfl ?_
       rintro _ h5 ⟨b5,rfl,r6,cd,aO⟩))
 aa (
  first
    | (refine Br.ad ?_)
    | (refine WL.al (aX (sz:=1) (bytes:=8) rfl Tryz.underlying39 (show Tryz.prog.info? 3=some Tryz.t3 by kernel_rfl) rfl rfl rfl rfl (by decide) rfl rfl ((ee.ext bh (fun q hq e=>by have:=im q hq;omega)).ext aO (fun _ _=>aQ)) (bG (len:=1) (sz:=1) cd rfl) (by simp [Value.oneCell']) (by simp only [maxLen];omega) (by omega)) rfl rfl rfl ?_
       rintro v6 h6 ⟨gT,aP,HX⟩))
 aa (first | refine Br.ad ?_ | have du:=(aO.obj (bh.obj cE n1) aQ))
 aa (refine Go ?_;first | refine Br.ad ?_ | refine Gs [(1,_),(2,_),(5,_),(6,_)] ?_)
 aa (first | refine Br.ad ?_ | refine WC.region ?_)
 aa (first | refine Br.ad ?_ | refine WL.step (an rfl) rfl rfl rfl ?_)
 aa (first | refine Br.ad ?_ | (first | refine WL.step (fz rfl rfl (by omega)) rfl rfl rfl ?_ | skip))
 aa (first | refine Br.ad ?_ | (rw [show ((L.length - j:Nat):Int) - 1=((L.length - (j+1):Nat):Int) by omega]))
 aa (refine Go ?_;first | refine Br.ad ?_ | (exact ⟨(j+1,_,_),⟨rfl,rfl,rfl,rfl,trivial⟩,(by exact ⟨by omega,(k4.ext aO aQ (fun _ _=>aQ)).ext aP (fun e=>by have:=im b e;omega) (fun q hq e=>by have:=im q e;have:=hv q (E2 q (JA q hq));have:=aB.size;omega),by rw [List.take_add_one,hy];simpa using gT,(aS.trans (bh.trans' aO (fun q hq e=>e.elim))).trans' aP (fun q hq e=>by have:=im q e;omega),E2.trans JA,cb HX im (by have:=bh.size;have:=aO.size;omega)⟩),(by (try simp only []);omega)⟩))
 try (refine Br.mk (i:=1000) ?_)
 refine Gn ?_;refine Gs [(5,_)] ?_;refine G2 ?_;refine Gt ?_
 rw [List.take_of_length_le (by omega),show j=L.length by omega] at ee
 rw [show j=L.length by omega,List.drop_length] at k3
 exact ⟨_,ee,k3,X2.trans aS,E2,fun q e=>by have:=im q e;have:=X2.size;omega⟩
def ID (c:(Bool × List UInt8)):List UInt8:=if c.1=true then be 4294967295 4 else be c.2.length 4++c.2
def gd (R:List (Bool × List UInt8)):List UInt8:=R.flatMap ID
theorem qk {R:List (Bool × List UInt8)} {k:Nat} {y:(Bool × List UInt8)} (hy:R[k]?=some y):gd (R.drop k)=ID y++gd (R.drop (k+1)):=by
 obtain ⟨eH,rfl⟩:=List.getElem?_eq_some_iff.1 hy
 have e:R.drop k=R[k] :: R.drop (k+1):=List.drop_eq_getElem_cons eH
 unfold gd
 rw [e,List.flatMap_cons]
theorem E6 (R:List (Bool × List UInt8)) (k:Nat):(gd (R.drop k)).length≤(gd R).length:=by
 have e:gd R=gd (R.take k)++gd (R.drop k):=by
   unfold gd
   rw [← List.flatMap_append,List.take_append_drop]
 rw [e,List.length_append]
 omega
structure pv (h0 h:aj) (u:Value) (L:List bj) (n:Nat):Prop where
 own:Own h u 85 2 n (L.flatMap bj.cells)
 ok:∀ c∈L,c.ok h
 vf:∀ q,u.ownBlock=some q→h0.size≤q
 cf:∀ c∈L,∀ q,0 < c.bytes.length→c.v.ownBlock=some q→h0.size≤q∧u.ownBlock ≠ some q
theorem pv.nil (h0 h:aj):pv h0 h (.slice none 0 0) [] 0:=⟨Own.nil _ _ _,(fun _ h=>nomatch h),(fun _ e=>by cases e),fun _ h=>nomatch h⟩
theorem pv.ext {h0 h h':aj} {S:Nat→Prop} {u:Value} {L:List bj} {n:Nat} (k:pv h0 h u L n) (x:Ext S h h') (hS:∀ q,S q→q < h0.size):pv h0 h' u L n :=
 ⟨k.own.ext x fun q hq e=>by have:=k.vf q hq;have:=hS q e;omega,fun c hc=>⟨(k.ok c hc).1.ext' x fun q h1 hq e=>by have:=(k.cf c hc q h1 hq).1;have:=hS q e;omega,(k.ok c hc).2⟩,k.vf,k.cf⟩
theorem pv.snoc {h0 h h':aj} {u v':Value} {L:List bj} {n:Nat} {c:bj} (k:pv h0 h u L n) (hc:c.ok h) (hf:∀ q,0 < c.bytes.length→c.v.ownBlock=some q→h0.size≤q∧u.ownBlock ≠ some q) (ho:Own h' v' 85 2 (n+1) (L.flatMap bj.cells++c.cells)) (hx:Ext (fun q=>u.ownBlock=some q) h h') (hl:v'.ownBlock=u.ownBlock∨v'.ownBlock=some h.size) (hs:h0.size≤h.size):pv h0 h' v' (L++[c]) (n+1):=by
 have key:∀ x∈L++[c],x.ok h∧∀ q,0 < x.bytes.length→x.v.ownBlock=some q→h0.size≤q∧u.ownBlock ≠ some q:=fun x hx=>by
   rcases List.mem_append.1 hx with hx | hx
   · exact ⟨k.ok x hx,k.cf x hx⟩
   · rw [List.mem_singleton.1 hx]
     exact ⟨hc,hf⟩
 refine ⟨by simpa using ho,fun x aK=>⟨(key x aK).1.1.ext' hx fun q h1 hq e=>((key x aK).2 q h1 hq).2 e,(key x aK).1.2⟩,cb hl k.vf hs,fun x aK q h1 hq=>⟨((key x aK).2 q h1 hq).1,fun e=>?_⟩⟩
 rcases hl with z | z
 · exact ((key x aK).2 q h1 hq).2 (z▸e)
 · rw [z] at e
   have:=(key x aK).1.1.lt h1 hq
   simp only [Option.some.injEq] at e
   omega
theorem IE (R:List (Bool × List UInt8)) (hc:∀ c∈R,(c.1=true→c.2.length=0)∧c.2.length≤1000000) (hl:R.length≤65535) (r:List UInt8) (k:Sc h b v (be R.length 2++(gd R++r))) (hv:∀ q,v.ownBlock=some q→q < h.size) (hm:(be R.length 2++(gd R++r)).length≤1000000) :
   ai Tryz.prog 130 ⟨[.agg ⟨[.pointer (some ⟨b,0,none⟩)]⟩]⟩ h fun u h'=>∃ v' L,cN h' u L∧L.map bj.pl=R∧Sc h' b v' r∧Ext (fun q=>q=b) h h'∧SO v v'∧∀ q,dG u L q→h.size≤q:=by
 have kn:=fun (g:aj) (v:Value) (n:Int) (r:List UInt8)=>jF (h:=g) (b:=b) (v:=v) (n:=n) (s:=4) (.inr (.inr rfl)) (r:=r)
 have QC:=ak k.bB
 have uP:(gd R++r).length≤1000000:=by rw [List.length_append] at hm;omega
 refine calls [(0,_)] Tryz.func130 rfl Tryz.ntmps130 rfl ⟨rfl,trivial⟩ ?_
 refine WC.sr ?_;refine WL.al (aI rfl) rfl rfl rfl ?_
 rintro _ h1 ⟨b1,rfl,b0,aT,aB⟩
 have n1:b1 ≠ b:=by omega
 refine Go ?_;refine G2 ?_;refine G3 ?_;refine WL.ld rfl (by first | exact ab aT rfl | assumption) rfl rfl rfl ?_
 refine WL.call (vs:=[_,_]) rfl Tryz.call122 rfl (jF (s:=2) (.inr (.inl rfl)) (by omega) (by omega) _ (k.ext aB aQ (fun _ _=>aQ)) hm) rfl rfl rfl ?_
 rintro _ h2 ⟨v2,rfl,k2,aK,E1⟩
 have ca:=aK.obj aT n1
 have X2:Ext (fun q=>q=b) h h2:=(aB.mono fun _ _ e=>e.elim).trans aK
 refine Go ?_;refine Gs [(1,_),(3,_),(4,_)] ?_;refine WC.block ?_;refine WC.bO (X:=Nat × Value × Value × List bj) (fun x=>([(4,In ((R.length - x.1:Nat):Int)),(3,x.2.1)]:Fr)) [(1,_)] (fun x h'=>x.1≤R.length∧Sc h' b x.2.2.1 (gd (R.drop x.1)++r)∧pv h2 h' x.2.1 x.2.2.2 x.1∧x.2.2.2.map bj.pl=R.take x.1∧Ext (fun q=>q=b) h2 h'∧SO v x.2.2.1) (fun x=>R.length - x.1) ((0,.slice none 0 0,v2,[])) ⟨rfl,rfl,rfl,trivial⟩ (by exact ⟨Nat.zero_le _,k2,pv.nil _ _,rfl,.refl _ _,E1⟩) ?_
 rintro ⟨j,u,w,L⟩ h3 ⟨hj,k3,IF,Lk,aS,E2⟩
 dsimp only at hj k3 IF Lk E2
 have Ll:∀ q,q=b→q < h2.size:=fun q e=>by have:=ak k2.bB;omega
 have cE:=aS.obj ca n1
 have s1:=aB.size
 have s2:=aK.size
 have s3:=aS.size
 refine WC.sub [(3,_),(4,_),(1,_)] ⟨rfl,rfl,rfl,trivial⟩ ?_
 dsimp only
 refine G3 ?_
 refine bU 11 (Hb.mk fun hb=>?_) (Hb.mk fun hb=>?_)
 aa (refine Gg ?_;first | refine WL.pass rfl rfl rfl ?_ | (refine WL.ld rfl (by first | exact ab cE rfl | assumption) rfl rfl rfl ?_))
 aa (
  first
    | (refine WL.pass rfl rfl rfl ?_)
    | (refine WL.call (vs:=[_]) rfl Tryz.call178 rfl (CJ k3) rfl rfl rfl ?_
       rintro _ hq ⟨rfl,mQ⟩
       replace mQ:=mQ.symm
       subst mQ))
 aa (refine Gg ?_;refine Go ?_;refine Gs [(1,_),(3,_),(4,_),(16,_)] ?_;refine aJ 1 2 ?_ TT.mk)
 aa try (
 refine ay 1 ?_
 refine WC.skip ?_
 skip)
 aa try (
 refine ay 2 ?_
 refine WC.exit ?_
 repeat' (ae first | refine aZ ?_ | refine aF rfl ?_ | refine aL ?_ | refine aN ?_ | refine aV ?_)
 refine Br.out (i:=1000) ?_
 skip)
 aa (refine Gn ?_;first | refine Br.ad ?_ | refine WC.seq ?_)
 aa (first | refine Br.ad ?_ | refine WC.block ?_)
 aa (first | refine Br.ad ?_ | refine WC.sr ?_)
 aa (
  first
    | (refine Br.ad ?_)
    | (obtain ⟨⟨nl,bs⟩,hy⟩:∃ y,R[j]?=some y:=⟨_,List.getElem?_eq_getElem (by omega)⟩
       obtain ⟨QD,FT⟩:=hc _ (List.mem_of_getElem? hy)
       dsimp only at QD FT
       have hle:=E6 R j
       rw [qk hy,List.append_assoc] at k3
       rw [qk hy] at hle
       simp only [List.length_append] at hle uP
       unfold ID at k3 hle
       dsimp only at k3 hle
       cases nl
       aa (first | (rw [if_neg (by decide)] at k3 hle) | rw [if_pos rfl] at k3 hle)
       aa (simp only [List.length_append,bA] at hle)
       aa (try rw [List.append_assoc] at k3)))
 aa (first | refine Br.ad ?_ | refine WL.step (ag rfl Tryz.underlying161 rfl Tryz.sizeOf158) rfl rfl rfl ?_)
 aa (first | refine Br.ad ?_ | (refine WL.ld rfl (by first | exact ab cE rfl | assumption) rfl rfl rfl ?_))
 aa (
  first
    | (refine Br.ad ?_)
    | (refine WL.call (vs:=[_,_]) rfl Tryz.call122 rfl (kn _ _ _ _ (by omega) (by omega) k3 (by simp only [List.length_append,bA];omega)) rfl rfl rfl ?_
       rintro _ h4 ⟨v4,rfl,k4,bh,JA⟩
       have bT:=bh.obj cE n1
       have Lm:=IF.ext bh Ll
       have s4:=bh.size
       have gG:∀ q,v4.ownBlock=some q→q < h2.size:=fun q hq=>(by have:=hv q (E2 q (JA q hq));omega)))
 aa (refine Go ?_;first | refine Br.ad ?_ | refine Gs [(1,_),(3,_),(4,_),(5,_)] ?_)
 aa (first | refine Br.ad ?_ | refine WC.seq ?_)
 aa (first | refine Br.ad ?_ | refine WC.sr ?_)
 aa (refine Go ?_;first | refine Br.ad ?_ | refine aJ 3 4 ?_ TT.mk)
 aa try (
 refine ay 3 ?_
 refine G2 ?_;refine WL.step (aH (vs:=[_]) (cs:=[_,_]) (fun | [a0]=>[a0,(.slice none 0 0)] | _=>[]) rfl rfl (by kernel_rfl)) rfl rfl rfl ?_
 refine WL.al (aw (vs:=[_]) (cs:=[_,_]) (fun | [.agg ⟨[a0,a1]⟩]=>[a0,a1] | _=>[]) Tryz.underlying40 rfl rfl (by kernel_rfl)) rfl rfl rfl ?_
 rintro _ h5 ⟨b5,rfl,r6,cd,aO⟩
 refine WL.al (aX (sz:=2) (bytes:=32) rfl Tryz.underlying40 (show Tryz.prog.info? 85=some Tryz.t85 by kernel_rfl) rfl rfl rfl rfl (by decide) rfl rfl (Lm.ext aO (fun _ e=>e.elim)).own (bG (len:=1) (sz:=2) cd rfl) (by simp [Value.oneCell']) (by simp only [maxLen];omega) (by omega)) rfl rfl rfl ?_
 rintro v6 h6 ⟨gT,aP,HX⟩
 have MC:=Lm.ext aO (fun _ e=>e.elim)
 obtain ⟨cc,E7⟩:∃ c:bj,c=⟨true,.slice none 0 0,[]⟩:=⟨_,rfl⟩
 have QE:=MC.snoc (c:=cc) (by subst E7;exact ⟨Rd.nil _ _,Nat.zero_le _⟩) (by subst E7;exact fun _ h=>absurd h (Nat.lt_irrefl 0)) (by subst E7;exact gT) aP HX (by have:=aO.size;omega)
 have kZ:=(k4.ext aO aQ (fun _ _=>aQ)).ext aP (fun e=>by have:=MC.vf b e;have:=Ll b rfl;omega) (fun q hq e=>by have:=MC.vf q e;have:=gG q hq;omega)
 have QF:cc.pl=(true,bs):=(by subst E7;rw [List.eq_nil_of_length_eq_zero (QD rfl)];rfl)
 have XZ:=(aS.trans (bh.trans' aO (fun q hq e=>e.elim))).trans' aP (fun q hq e=>by have:=MC.vf q e;omega)
 have Ds:=E2.trans JA
 refine Go ?_;refine Gs [(1,_),(3,_),(4,_)] ?_;refine WC.exit ?_
 repeat' (ae first | refine aZ ?_ | refine aF rfl ?_ | refine aL ?_ | refine aN ?_ | refine aV ?_)
 refine Br.out (i:=1001) ?_
 skip)
 aa try (
 refine ay 4 ?_
 refine WC.skip ?_
 skip)
 aa (refine Gn ?_;first | refine Br.ad ?_ | refine WC.region ?_)
 aa (refine Go ?_;first | refine Br.ad ?_ | (refine WL.ld rfl (by first | exact ab bT rfl | assumption) rfl rfl rfl ?_))
 aa (refine Go ?_)
 aa (
  first
    | (refine Br.ad ?_)
    | (refine WL.call (vs:=[_,_]) rfl Tryz.call179 rfl (CI k4 (by simp only [List.length_append];omega)) rfl rfl rfl ?_
       rintro v5 h5 ⟨w5,eX,k5,aO,pw,gj⟩
       obtain ⟨A5,c5,rfl,_⟩:=eX.slice))
 aa (first | refine Br.ad ?_ | (refine WL.step (aH (vs:=[_]) (cs:=[_,_]) (fun | [a1]=>[(.bool false),a1] | _=>[]) rfl rfl (by kernel_rfl)) rfl rfl rfl ?_))
 aa (
  first
    | (refine Br.ad ?_)
    | (refine WL.al (aw (vs:=[_]) (cs:=[_,_]) (fun | [.agg ⟨[a0,a1]⟩]=>[a0,a1] | _=>[]) Tryz.underlying40 rfl rfl (by kernel_rfl)) rfl rfl rfl ?_
       rintro _ h6 ⟨b6,rfl,r5,cj,aP⟩))
 aa (
  first
    | (refine Br.ad ?_)
    | (refine WL.al (aX (sz:=2) (bytes:=32) rfl Tryz.underlying40 (show Tryz.prog.info? 85=some Tryz.t85 by kernel_rfl) rfl rfl rfl rfl (by decide) rfl rfl ((Lm.ext aO Ll).ext aP (fun _ e=>e.elim)).own (bG (len:=1) (sz:=2) cj rfl) (by simp [Value.oneCell']) (by simp only [maxLen];omega) (by omega)) rfl rfl rfl ?_
       rintro v7 h7 ⟨nT,bu,FQ⟩))
 aa (
  first
    | (refine Br.ad ?_)
    | (have MD:=(Lm.ext aO Ll).ext aP (fun _ e=>e.elim)
       obtain ⟨cc,E7⟩:∃ c:bj,c=⟨false,.slice A5 bs.length c5,bs⟩:=⟨_,rfl⟩
       have QE:=MD.snoc (c:=cc) (by subst E7;exact ⟨eX.rd.av aP,by unfold reachBytes;show bs.length≤_;omega⟩) (by subst E7;exact fun q _ hq=>⟨by have:=gj q hq;omega,fun e=>by have:=gj q hq;have:=Lm.own.lt e;omega⟩) (by subst E7;exact nT) bu FQ (by have:=aO.size;have:=aP.size;omega)
       have kZ:=(k5.ext aP aQ (fun _ _=>aQ)).ext bu (fun e=>by have:=MD.vf b e;have:=Ll b rfl;omega) (fun q hq e=>by have:=MD.vf q e;have:=gG q (pw q hq);omega)
       have QF:cc.pl=(false,bs):=(by subst E7;rfl)
       have XZ:=((aS.trans bh).trans (aO.trans' aP (fun q hq e=>e.elim))).trans' bu (fun q hq e=>by have:=MD.vf q e;omega)
       have Ds:=(E2.trans JA).trans pw))
 aa (refine Go ?_;try (refine Br.mk (i:=1001) ?_))
 aa (refine Gn ?_;first | refine Br.ad ?_ | refine WC.region ?_)
 aa (first | refine Br.ad ?_ | refine WL.step (an rfl) rfl rfl rfl ?_)
 aa (first | refine Br.ad ?_ | (first | refine WL.step (fz rfl rfl (by omega)) rfl rfl rfl ?_ | skip))
 aa (first | refine Br.ad ?_ | (rw [show ((R.length - j:Nat):Int) - 1=((R.length - (j+1):Nat):Int) by omega]))
 aa (refine Go ?_;first | refine Br.ad ?_ | (exact ⟨(j+1,_,_,L++[cc]),⟨rfl,rfl,rfl,trivial⟩,(by exact ⟨by omega,kZ,QE,by rw [List.map_append,Lk,List.take_add_one,hy,List.map_singleton,QF];rfl,XZ,Ds⟩),(by (try simp only []);omega)⟩))
 try (refine Br.mk (i:=1000) ?_)
 refine Gn ?_;refine G2 ?_;refine Gs [(2,_)] ?_;refine Gt ?_
 obtain rfl:j=R.length:=by omega
 rw [List.drop_length] at k3
 rw [List.take_length] at Lk
 have ME:L.length=R.length:=(by rw [← Lk,List.length_map])
 obtain ⟨A9,c9,rfl,S6⟩:=IF.own.cap
 exact ⟨_,L,⟨by rw [ME];exact IF.own.rd,⟨by unfold reachBytes;omega,_,_,by rw [ME],S6⟩,IF.ok⟩,Lk,k3,X2.trans aS,E2,fun q hq=>by
  have:=X2.size
  rcases hq with ⟨_,e⟩ | ⟨c,hc,h1,h2⟩
  · have:=IF.vf q e;omega
  · have:=(IF.cf c hc q h1 h2).1;omega⟩
end
abbrev QG:Value:=.slice none 0 0
def Bs (g h:aj) (v:Value) (l:List UInt8):Prop:=Own h v 5 1 l.length (bK l)∧Ext No g h∧∀ q,v.ownBlock=some q→g.size≤q
theorem Bs.nil (h:aj):Bs h h QG []:=⟨Own.nil _ _ _,.refl _ _,fun _ e=>by cases e⟩
theorem Bs.str {g h:aj} {v:Value} {l:List UInt8} (k:Bs g h v l) (s:List UInt8) (hl:l.length+s.length≤1000000000):ai Tryz.prog 65 ⟨[v,St s]⟩ h fun u h'=>Bs g h' u (l++s++[0]) :=
 (CC l s k.1 hl).mono fun _ _ ⟨ho,hr⟩=>⟨ho,hr.fresh k.2.1 k.2.2⟩
theorem Bs.list {g h:aj} {v w:Value} {l:List UInt8} (k:Bs g h v l) (L:List Int) (hw:Rd g w 1 L.length (ints L)) (hl:l.length≤1000000) (hm:L.length≤100) {s:Nat} (hs:Sz s) (h4:s≤4) (hn:∀ n∈L,Rt n s) :
   ai Tryz.prog 64 ⟨[v,w,In s]⟩ h fun u h'=>Bs g h' u (l++be L.length 2++dO s L) :=
 (EY l L k.1.rd (hw.av k.2.1) hl hm hs h4 hn).mono fun _ _ ⟨ho,hx,hf⟩=>⟨ho,k.2.1.trans hx,fun q e=>by have:=hf q e;have:=k.2.1.size;omega⟩
theorem xD (R:List bj):R.flatMap cM=gd (R.map bj.pl):=by
 unfold gd
 rw [List.flatMap_map]
 rfl
theorem oE {R:List bj} (hm:R.length≤50) (hc:∀ c∈R,c.bytes.length≤300):(gd (R.map bj.pl)).length≤15200:=by
 have:=qi (f:=cM) (n:=304) R fun x hx=>by have:=hc x hx;unfold cM;split <;> simp [bA] <;> omega
 rw [xD] at this
 omega
theorem Bs.put {g h:aj} {v w:Value} {l:List UInt8} (k:Bs g h v l) (R:List bj) (hw:cN g w R) (hl:l.length≤1000000) (hm:R.length≤50) (hc:∀ c∈R,c.bytes.length≤300) :
   ai Tryz.prog 66 ⟨[v,w]⟩ h fun u h'=>Bs g h' u (l++be R.length 2++gd (R.map bj.pl)) :=
 (Iw l R k.1.rd (hw.av k.2.1) hl (by omega) (fun c h=>by have:=hc c h;omega)).mono fun _ _ ⟨ho,hx,hf⟩=>⟨by rw [xD] at ho;exact ho,k.2.1.trans hx,fun q e=>by have:=hf q e;have:=k.2.1.size;omega⟩
def iS (f:Fm):List UInt8 :=
 if f.kind=80 then f.name++[0]++f.text++[0]++be f.aU.length 2++dO 4 f.aU
 else if f.kind=66 then f.bm++[0]++f.name++[0]++be f.bX.length 2++dO 2 f.bX++be f.params.length 2++gd (f.params.map bj.pl)++be f.results.length 2++dO 2 f.results
 else if f.kind=67∨f.kind=68 then [UInt8.ofNat f.what.toNat]++(f.name++f.bm)++[0]
 else if f.kind=69 then f.bm++[0]++be f.max 4
 else if f.kind=81 then f.text++[0]
 else []
theorem Ln {n:Int} (h:0≤n∧n≤65535):Rt n 2:=Iv (by omega)
theorem Lo {h:aj} (f:Fm) (hf:f.ok h) (w:f.xA):ai Tryz.prog 31 ⟨[.agg ⟨f.cells⟩]⟩ h fun u h' =>
   ((¬ f.may∧∃ e,e ≠ 0∧u=.tuple ⟨[.agg ⟨[.int .u8 0,QG]⟩,In e]⟩)∨(f.may∧∃ v m,u=.tuple ⟨[.agg ⟨[.int .u8 f.kind,v]⟩,In 0]⟩∧Own h' v 5 1 m.length (bK m)∧m=iS f∧m.length≤30000))∧Ext No h h':=by
 have kc:=fun {g:aj} (x:Ext No h g)=>CE f (hf.av x) w
 have U5:=w
 obtain ⟨Gj,Gk,Gl,zG,CF,IA,IB,IC⟩:=w
 have Lp:f.may→f.may:=id
 generalize S7:f.may=MY at kc Lp
 have Lq:MY→(∀ n∈f.aU,0≤n∧n≤4294967295)∧(∀ n∈f.bX,0≤n∧n≤65535)∧(∀ n∈f.results,0≤n∧n≤65535)∧(-2147483648≤f.max∧f.max≤2147483647)∧Wh f.kind f.what:=fun z=>by
   rw [← S7] at z
   exact ⟨z.aU,z.bX,z.results,z.max,z.what⟩
 clear Lp
 have hE:iS f=(if f.kind=80 then f.name++[0]++f.text++[0]++be f.aU.length 2++dO 4 f.aU
   else if f.kind=66 then f.bm++[0]++f.name++[0]++be f.bX.length 2++dO 2 f.bX++be f.params.length 2++gd (f.params.map bj.pl)++be f.results.length 2++dO 2 f.results
   else if f.kind=67∨f.kind=68 then [UInt8.ofNat f.what.toNat]++(f.name++f.bm)++[0]
   else if f.kind=69 then f.bm++[0]++be f.max 4
   else if f.kind=81 then f.text++[0]
   else []):=rfl
 generalize iS f=EM at hE ⊢
 obtain ⟨⟨e1,_⟩,⟨e2,_⟩,⟨e3,_⟩,e4⟩:=hf
 obtain ⟨fk,w,n,p,t,vo,o,vf,fs,vs,rs,vp,ps,mx⟩:=f
 dsimp only at e1 e2 e3 e4 Gj Gk Gl zG CF IA IB IC Lq hE
 obtain ⟨A1,z1,rfl,_⟩:=id e1
 obtain ⟨A2,z2,rfl,_⟩:=id e2
 obtain ⟨A3,z3,rfl,_⟩:=id e3
 obtain ⟨_,⟨_,A4,z4,rfl,_⟩,_⟩:=id e4
 dsimp only [Fm.cells] at kc ⊢
 refine calls [(0,_)] Tryz.func31 rfl Tryz.ntmps31 rfl ⟨rfl,trivial⟩ ?_
 refine WC.sr ?_;refine WL.al (aI rfl) rfl rfl rfl ?_
 rintro _ g1 ⟨b1,rfl,b0,aT,aB⟩
 refine WL.al (au (fun w=>Tryz.zeroValue53 w)) rfl rfl rfl ?_
 rintro _ g2 ⟨b2,rfl,gI,bR,aK⟩
 have ca:=aK.obj aT aQ
 have l2:=ak bR
 have X2:=aB.trans aK
 refine Go ?_;refine WC.seq ?_;refine WC.sr ?_;refine WL.step (aA Tryz.isAgg42 Tryz.sizeOf42 rfl rfl (by exact At.ax ca)) rfl rfl rfl ?_
 refine WL.call (vs:=[_]) rfl Tryz.call63 rfl (kc X2) rfl rfl rfl ?_
 rintro _ g3 ⟨⟨e,rfl,he⟩,aS⟩
 have cE:=aS.obj ca aQ
 have na:=aS.obj bR aQ
 have X3:=X2.trans aS
 have s1:=aB.size
 have s3:=X3.size
 refine Go ?_;refine Gs [(1,_),(2,_),(4,_)] ?_;refine G2 ?_
 refine aJ 1 2 (Hb.mk fun hb=>?_) (Hb.mk fun hb=>?_)
 aa try (
 refine ay 1 ?_
 refine WC.sr ?_;refine WL.step (aH (vs:=[]) (cs:=[_,_]) (fun | []=>[(.int .u8 0),(.slice none 0 0)] | _=>[]) rfl rfl (by kernel_rfl)) rfl rfl rfl (Go ?_)
 refine WL.az (aq Tryz.sizeOf53 rfl rfl rfl na rfl (by simp [Value.oneCell'])) rfl rfl ?_
 rintro _ h9 ⟨ck,cl⟩
 refine Go ?_;refine Gs [(2,_),(3,_)] ?_;refine WC.ret ?_
 repeat' (ae first | refine bq ?_ | refine ba ?_)
 refine di _ _ ⟨⟨_,rfl,bJ Tryz.isAgg53 Tryz.sizeOf53 ck rfl⟩,rfl,trivial⟩ ?_
 first
  | exact ⟨.inl ⟨fun z=>by have:=he.2 z;omega,e,by omega,rfl⟩,X3.trans' cl (fun q hq z=>by omega)⟩
  | exact ⟨.inr ⟨zq,_,_,rfl,BZ.1.ext cl (fun q hq z=>by have:=BZ.2.2 q hq;have:=ak na;omega),by first | exact eM | (rw [hE,if_neg (by omega),if_neg (by omega),if_neg (by omega),if_neg (by omega),if_neg (by omega)]),lZ⟩,(X3.trans BZ.2.1).trans' cl (fun q hq z=>by omega)⟩
 skip)
 aa (refine ay 2 ?_)
 refine WC.skip ?_;refine Gn ?_;refine G2 ?_;refine G3 ?_;refine WL.ld rfl (by first | exact ab cE rfl | assumption) rfl rfl rfl ?_
 have zq:MY:=he.1 (by omega)
 obtain ⟨y1,y2,y3,y4,y5⟩:=Lq zq
 unfold Wh at y5
 have B0:=Bs.nil g3
 have BZ:=B0
 have lZ:([]:List UInt8).length≤30000:=Nat.zero_le _
 have l4:=oE zG CF
 have eM:True:=trivial
 have r1:=e1.av X3
 have r2:=e2.av X3
 have r3:=e3.av X3
 have r4:=e4.av X3
 refine Gn ?_;refine Gs [(1,_),(2,_),(5,_),(13,_)] ?_;refine WC.block ?_;refine G2 ?_
 refine aJ 3 4 (Hb.mk fun hb=>?_) (Hb.mk fun hb=>?_)
 aa try (
 refine ay 3 ?_
 refine WC.cg (fun h'=>Ext No g3 h') 9 10 rfl dB ?_
 refine WH.tk 0 rfl (fun hq hC=>ag rfl Tryz.underlying42 rfl Tryz.sizeOf9) rfl rfl rfl ?_ (hC:=(by first | exact Ext.refl _ _ | assumption | exact B3.2.1 | exact B2.2.1 | exact B1.2.1))
 refine WH.tk 1 rfl (fun hq hC=>aC Tryz.isAgg9 rfl (by first | exact hC.cell (by first | exact ab cE rfl | assumption) aQ)) rfl rfl rfl ?_ (hC:=(by first | exact Ext.refl _ _ | assumption | exact B3.2.1 | exact B2.2.1 | exact B1.2.1))
 refine WH.tk 3 rfl (fun hq hC=>ag rfl Tryz.underlying42 rfl Tryz.sizeOf9) rfl rfl rfl ?_ (hC:=(by first | exact Ext.refl _ _ | assumption | exact B3.2.1 | exact B2.2.1 | exact B1.2.1))
 refine WH.tk 4 rfl (fun hq hC=>aC Tryz.isAgg9 rfl (by first | exact hC.cell (by first | exact ab cE rfl | assumption) aQ)) rfl rfl rfl ?_ (hC:=(by first | exact Ext.refl _ _ | assumption | exact B3.2.1 | exact B2.2.1 | exact B1.2.1))
 refine WH.tk 6 rfl (fun hq hC=>ag rfl Tryz.underlying42 rfl Tryz.sizeOf39) rfl rfl rfl ?_ (hC:=(by first | exact Ext.refl _ _ | assumption | exact B3.2.1 | exact B2.2.1 | exact B1.2.1))
 refine WH.tk 7 rfl (fun hq hC=>aC Tryz.isAgg39 rfl (by first | exact hC.cell (by first | exact ab cE rfl | assumption) aQ)) rfl rfl rfl ?_ (hC:=(by first | exact Ext.refl _ _ | assumption | exact B3.2.1 | exact B2.2.1 | exact B1.2.1))
 refine WH.one 2 (by kernel_rfl) ?_
 refine aE.call (vs:=[_,_]) rfl rfl Tryz.call65 rfl (B0.str n (by simp;omega)) rfl rfl rfl ?_ (fun _=>by kernel_rfl)
 rintro v4 h4 B1
 refine ⟨fun _=>B1.2.1,?_⟩
 refine WH.one 5 (by kernel_rfl) ?_
 refine aE.call (vs:=[_,_]) rfl rfl Tryz.call65 rfl (B1.str t (by simp;omega)) rfl rfl rfl ?_ (fun _=>by kernel_rfl)
 rintro v5 h5 B2
 refine ⟨fun _=>B2.2.1,?_⟩
 refine WH.one 8 (by kernel_rfl) ?_
 refine aE.call (vs:=[_,_,_]) rfl rfl Tryz.call64 rfl (B2.list (s:=4) o r1 (by simp;omega) (by omega) EX (by decide) (fun n hn=>xB (by have:=y1 n hn;omega))) rfl rfl rfl ?_ (fun _=>by kernel_rfl)
 rintro v6 h6 B3
 refine ⟨fun _=>B3.2.1,?_⟩
 refine WH.one 9 (by kernel_rfl) ?_
 refine aE.run rfl (bW.r (aR rfl)) rfl rfl rfl ?_ (fun _=>by kernel_rfl)
 rintro _ hz ⟨rfl,_⟩
 subst hz
 refine ⟨fun e=>(by cases e),?_⟩
 have BZ:=B3
 have lZ:([]++n++[0]++t++[0]++be o.length 2++dO 4 o).length≤30000:=by simp [bA,cL];omega
 have eM:[]++n++[0]++t++[0]++be o.length 2++dO 4 o=EM:=by rw [hE,if_pos (by omega)];simp
 refine WH.done (by kernel_rfl) ?_
 skip)
 aa try (
 refine ay 4 ?_
 refine G2 ?_
 refine aJ 5 6 (Hb.mk fun hb=>?_) (Hb.mk fun hb=>?_)
 aa try (
 refine ay 5 ?_
 refine WC.cg (fun h'=>Ext No g3 h') 15 16 rfl dB ?_
 refine WH.tk 0 rfl (fun hq hC=>ag rfl Tryz.underlying42 rfl Tryz.sizeOf9) rfl rfl rfl ?_ (hC:=(by first | exact Ext.refl _ _ | assumption | exact B5.2.1 | exact B4.2.1 | exact B3.2.1 | exact B2.2.1 | exact B1.2.1))
 refine WH.tk 1 rfl (fun hq hC=>aC Tryz.isAgg9 rfl (by first | exact hC.cell (by first | exact ab cE rfl | assumption) aQ)) rfl rfl rfl ?_ (hC:=(by first | exact Ext.refl _ _ | assumption | exact B5.2.1 | exact B4.2.1 | exact B3.2.1 | exact B2.2.1 | exact B1.2.1))
 refine WH.tk 3 rfl (fun hq hC=>ag rfl Tryz.underlying42 rfl Tryz.sizeOf9) rfl rfl rfl ?_ (hC:=(by first | exact Ext.refl _ _ | assumption | exact B5.2.1 | exact B4.2.1 | exact B3.2.1 | exact B2.2.1 | exact B1.2.1))
 refine WH.tk 4 rfl (fun hq hC=>aC Tryz.isAgg9 rfl (by first | exact hC.cell (by first | exact ab cE rfl | assumption) aQ)) rfl rfl rfl ?_ (hC:=(by first | exact Ext.refl _ _ | assumption | exact B5.2.1 | exact B4.2.1 | exact B3.2.1 | exact B2.2.1 | exact B1.2.1))
 refine WH.tk 6 rfl (fun hq hC=>ag rfl Tryz.underlying42 rfl Tryz.sizeOf39) rfl rfl rfl ?_ (hC:=(by first | exact Ext.refl _ _ | assumption | exact B5.2.1 | exact B4.2.1 | exact B3.2.1 | exact B2.2.1 | exact B1.2.1))
 refine WH.tk 7 rfl (fun hq hC=>aC Tryz.isAgg39 rfl (by first | exact hC.cell (by first | exact ab cE rfl | assumption) aQ)) rfl rfl rfl ?_ (hC:=(by first | exact Ext.refl _ _ | assumption | exact B5.2.1 | exact B4.2.1 | exact B3.2.1 | exact B2.2.1 | exact B1.2.1))
 refine WH.tk 9 rfl (fun hq hC=>ag rfl Tryz.underlying42 rfl Tryz.sizeOf40) rfl rfl rfl ?_ (hC:=(by first | exact Ext.refl _ _ | assumption | exact B5.2.1 | exact B4.2.1 | exact B3.2.1 | exact B2.2.1 | exact B1.2.1))
 refine WH.tk 10 rfl (fun hq hC=>aC Tryz.isAgg40 rfl (by first | exact hC.cell (by first | exact ab cE rfl | assumption) aQ)) rfl rfl rfl ?_ (hC:=(by first | exact Ext.refl _ _ | assumption | exact B5.2.1 | exact B4.2.1 | exact B3.2.1 | exact B2.2.1 | exact B1.2.1))
 refine WH.tk 12 rfl (fun hq hC=>ag rfl Tryz.underlying42 rfl Tryz.sizeOf39) rfl rfl rfl ?_ (hC:=(by first | exact Ext.refl _ _ | assumption | exact B5.2.1 | exact B4.2.1 | exact B3.2.1 | exact B2.2.1 | exact B1.2.1))
 refine WH.tk 13 rfl (fun hq hC=>aC Tryz.isAgg39 rfl (by first | exact hC.cell (by first | exact ab cE rfl | assumption) aQ)) rfl rfl rfl ?_ (hC:=(by first | exact Ext.refl _ _ | assumption | exact B5.2.1 | exact B4.2.1 | exact B3.2.1 | exact B2.2.1 | exact B1.2.1))
 refine WH.one 2 (by kernel_rfl) ?_
 refine aE.call (vs:=[_,_]) rfl rfl Tryz.call65 rfl (B0.str p (by simp;omega)) rfl rfl rfl ?_ (fun _=>by kernel_rfl)
 rintro v4 h4 B1
 refine ⟨fun _=>B1.2.1,?_⟩
 refine WH.one 5 (by kernel_rfl) ?_
 refine aE.call (vs:=[_,_]) rfl rfl Tryz.call65 rfl (B1.str n (by simp;omega)) rfl rfl rfl ?_ (fun _=>by kernel_rfl)
 rintro v5 h5 B2
 refine ⟨fun _=>B2.2.1,?_⟩
 refine WH.one 8 (by kernel_rfl) ?_
 refine aE.call (vs:=[_,_,_]) rfl rfl Tryz.call64 rfl (B2.list (s:=2) fs r2 (by simp;omega) (by omega) EW (by decide) (fun n hn=>Ln (y2 n hn))) rfl rfl rfl ?_ (fun _=>by kernel_rfl)
 rintro v6 h6 B3
 refine ⟨fun _=>B3.2.1,?_⟩
 refine WH.one 11 (by kernel_rfl) ?_
 refine aE.call (vs:=[_,_]) rfl rfl Tryz.call66 rfl (B3.put ps r4 (by simp [bA,cL];omega) zG CF) rfl rfl rfl ?_ (fun _=>by kernel_rfl)
 rintro v7 h7 B4
 refine ⟨fun _=>B4.2.1,?_⟩
 refine WH.one 14 (by kernel_rfl) ?_
 refine aE.call (vs:=[_,_,_]) rfl rfl Tryz.call64 rfl (B4.list (s:=2) rs r3 (by simp [bA,cL];omega) (by omega) EW (by decide) (fun n hn=>Ln (y3 n hn))) rfl rfl rfl ?_ (fun _=>by kernel_rfl)
 rintro v8 h8 B5
 refine ⟨fun _=>B5.2.1,?_⟩
 refine WH.one 15 (by kernel_rfl) ?_
 refine aE.run rfl (bW.r (aR rfl)) rfl rfl rfl ?_ (fun _=>by kernel_rfl)
 rintro _ hz ⟨rfl,_⟩
 subst hz
 refine ⟨fun e=>(by cases e),?_⟩
 have BZ:=B5
 have lZ:([]++p++[0]++n++[0]++be fs.length 2++dO 2 fs++be ps.length 2++gd (ps.map bj.pl)++be rs.length 2++dO 2 rs).length≤30000:=by simp [bA,cL];omega
 have eM:[]++p++[0]++n++[0]++be fs.length 2++dO 2 fs++be ps.length 2++gd (ps.map bj.pl)++be rs.length 2++dO 2 rs=EM:=by rw [hE,if_neg (by omega),if_pos (by omega)];simp
 refine WH.done (by kernel_rfl) ?_
 skip)
 aa try (
 refine ay 6 ?_
 refine G3 ?_;refine Gs [(1,_),(2,_),(5,_),(13,_),(42,_)] ?_
 refine aJ 7 8 (Hb.mk fun hb=>?_) (Hb.mk fun hb=>?_)
 aa try (
 refine ay 7 ?_
 refine WC.skip ?_
 skip)
 aa try (
 refine ay 8 ?_
 refine WC.region (Go ?_)
 skip)
 aa (refine Gn ?_;refine aJ 9 10 (Hb.mk fun hb=>?_) (Hb.mk fun hb=>?_))
 aa try (
 refine ay 9 ?_
 aa (refine WC.region (Go ?_);refine WL.ld rfl (by first | exact ab cE rfl | assumption) rfl rfl rfl ?_;refine WL.al (aw (vs:=[_]) (cs:=[_]) (fun | [a0]=>[a0] | _=>[]) Tryz.underlying23 rfl rfl (by kernel_rfl)) rfl rfl rfl ?_;rintro _ h4 ⟨b4,rfl,pH,bN,bh⟩;have bT:=bh.obj cE aQ;refine Go ?_;refine WL.ld rfl (by first | exact ab bT rfl | assumption) rfl rfl rfl (Go ?_);refine WL.ld rfl (by first | exact ab bT rfl | assumption) rfl rfl rfl ?_;refine WL.step (dC rfl rfl (by omega)) rfl rfl rfl ?_)
 aa (
  have Lr:0≤w∧w≤255:=by omega
  have gk:Own h4 (.slice (some ⟨b4,0,none⟩) 1 1) 5 1 ([UInt8.ofNat w.toNat]:List UInt8).length (bK [UInt8.ofNat w.toNat]):=by
   rw [qL Lr]
   exact dR (len:=1) bN rfl (by decide))
 aa (refine WL.call (vs:=[_,_]) rfl Tryz.call65 rfl (CC [UInt8.ofNat w.toNat] (n++p) gk (by simp only [List.length_append,List.length_cons,List.length_nil];omega)) rfl rfl rfl ?_;rintro v5 h5 ⟨eX,S8⟩;refine WL.step (aR rfl) rfl rfl rfl ?_;have BZ:Bs g3 h5 _ _:=⟨eX,S8.fresh bh (fun q e=>by cases e;exact pH)⟩;(have lZ:([UInt8.ofNat w.toNat]++(n++p)++[0]).length≤30000:=by simp;omega);(have eM:[UInt8.ofNat w.toNat]++(n++p)++[0]=EM:=by rw [hE,if_neg (by omega),if_neg (by omega),if_pos (by omega)]);refine Gn ?_)
 skip)
 aa try (
 refine ay 10 ?_
 aa (refine G2 ?_;first | refine aJ 11 12 ?_ TT.mk | (refine aJ 11 12 (Hb.mk fun hb=>?_) (Hb.mk fun hb=>?_)))
 aa try (
 refine ay 11 ?_
 aa (refine WC.cg (fun h'=>Ext No g3 h') 6 7 rfl dB ?_;refine WH.tk 0 rfl (fun hq hC=>ag rfl Tryz.underlying42 rfl Tryz.sizeOf9) rfl rfl rfl ?_ (hC:=(by first | exact Ext.refl _ _ | assumption | exact B1.2.1));refine WH.tk 1 rfl (fun hq hC=>aC Tryz.isAgg9 rfl (by first | exact hC.cell (by first | exact ab cE rfl | assumption) aQ)) rfl rfl rfl ?_ (hC:=(by first | exact Ext.refl _ _ | assumption | exact B1.2.1));refine WH.tk 3 rfl (fun hq hC=>ag rfl Tryz.underlying42 rfl Tryz.sizeOf3) rfl rfl rfl ?_ (hC:=(by first | exact Ext.refl _ _ | assumption | exact B1.2.1));refine WH.tk 4 rfl (fun hq hC=>aC Tryz.isAgg3 rfl (by first | exact hC.cell (by first | exact ab cE rfl | assumption) aQ)) rfl rfl rfl ?_ (hC:=(by first | exact Ext.refl _ _ | assumption | exact B1.2.1));refine WH.one 2 (by kernel_rfl) ?_;refine aE.call (vs:=[_,_]) rfl rfl Tryz.call65 rfl (B0.str p (by simp;omega)) rfl rfl rfl ?_ (fun _=>by kernel_rfl);rintro v4 h4 B1;refine ⟨fun _=>B1.2.1,?_⟩;refine WH.one 5 (by kernel_rfl) ?_;refine aE.call (vs:=[_,_,_]) rfl rfl Tryz.call62 rfl (kY _ mx 4 EX (xB (by omega)) B1.1.rd (by simp;omega)) rfl rfl rfl ?_ (fun _=>by kernel_rfl);rintro v5 h5 ⟨eX,aO,gj⟩;refine ⟨fun _=>B1.2.1.trans aO,?_⟩;refine WH.one 6 (by kernel_rfl) ?_;refine aE.run rfl (bW.r (aR rfl)) rfl rfl rfl ?_ (fun _=>by kernel_rfl);rintro _ hz ⟨rfl,_⟩;subst hz;refine ⟨fun e=>(by cases e),?_⟩;have BZ:Bs g3 h5 _ _:=⟨eX,B1.2.1.trans aO,fun q e=>by have:=gj q e;have:=B1.2.1.size;omega⟩;(have lZ:([]++p++[0]++be mx 4).length≤30000:=by simp [bA];omega);(have eM:[]++p++[0]++be mx 4=EM:=by rw [hE,if_neg (by omega),if_neg (by omega),if_neg (by omega),if_pos (by omega)];simp);refine WH.done (by kernel_rfl) ?_)
 skip)
 aa try (
 refine ay 12 ?_
 refine G2 ?_;refine Gs [(1,_),(2,_),(5,_),(62,_)] ?_
 refine aJ 13 14 (Hb.mk fun hb=>?_) (Hb.mk fun hb=>?_)
 aa try (
 refine ay 13 ?_
 refine WC.region (Go ?_);refine WL.ld rfl (by first | exact ab cE rfl | assumption) rfl rfl rfl ?_
 refine WL.call (vs:=[_,_]) rfl Tryz.call65 rfl (B0.str t (by simp;omega)) rfl rfl rfl ?_
 rintro v4 h4 BZ
 have lZ:([]++t++[0]).length≤30000:=by simp;omega
 have eM:[]++t++[0]=EM:=by rw [hE,if_neg (by omega),if_neg (by omega),if_neg (by omega),if_neg (by omega),if_pos (by omega)];simp
 refine Go ?_
 skip)
 aa try (
 refine ay 14 ?_
 refine WC.skip ?_
 skip)
 skip)
 skip)
 skip)
 skip)
 aa (refine Gn ?_;refine WC.sr ?_;obtain ⟨AZ,cZ,eZ,_⟩:=id BZ.1.slice;try subst eZ)
 aa (refine WL.step (ag rfl Tryz.underlying42 rfl Tryz.sizeOf5) rfl rfl rfl ?_;refine WL.ld rfl (by first | exact ab (BZ.2.1.obj cE aQ) rfl | assumption) rfl rfl rfl (Go ?_);refine WL.step (aH (vs:=[_,_]) (cs:=[_,_]) (fun | [a0,a1]=>[a0,a1] | _=>[]) rfl rfl (by kernel_rfl)) rfl rfl rfl ?_;refine WL.az (aq Tryz.sizeOf53 rfl rfl rfl (BZ.2.1.obj na aQ) rfl (by obtain ⟨_,_,e,_⟩:=BZ.1.slice;simp [Value.oneCell',e])) rfl rfl ?_;rintro _ h9 ⟨ck,cl⟩;refine Go ?_;refine Gs [(2,_),(3,_)] ?_;refine WC.ret ?_;repeat' (ae first | refine bq ?_ | refine ba ?_))
 aa (refine di _ _ ⟨⟨_,rfl,bJ Tryz.isAgg53 Tryz.sizeOf53 ck rfl⟩,rfl,trivial⟩ ?_)
 aa (
  first
   | exact ⟨.inl ⟨fun z=>by have:=he.2 z;omega,e,by omega,rfl⟩,X3.trans' cl (fun q hq z=>by omega)⟩
   | exact ⟨.inr ⟨zq,_,_,rfl,BZ.1.ext cl (fun q hq z=>by have:=BZ.2.2 q hq;have:=ak na;omega),by first | exact eM | (rw [hE,if_neg (by omega),if_neg (by omega),if_neg (by omega),if_neg (by omega),if_neg (by omega)]),lZ⟩,(X3.trans BZ.2.1).trans' cl (fun q hq z=>by omega)⟩)
def xE (ms:List (Int × List UInt8)):List UInt8:=ms.flatMap fun m=>iU m.1 m.2
theorem CK (ms:List (Int × List UInt8)) (m:Int × List UInt8):xE (ms++[m])=xE ms++iU m.1 m.2:=by simp [xE]
theorem iH (k:Int) (l:List UInt8):(iU k l).length=5+l.length:=by simp [iU,bA];omega
theorem xF {ms:List (Int × List UInt8)} (h:∀ m∈ms,m.2.length≤30000):(xE ms).length≤ms.length * 30005:=by
 induction ms with
 | nil=>simp [xE]
 | cons m ms ih =>
   have h1:=h m (List.mem_cons_self ..)
   have h2:=ih fun x hx=>h x (List.mem_cons_of_mem _ hx)
   have e:xE (m :: ms)=iU m.1 m.2++xE ms:=by simp [xE]
   rw [e,List.length_append,iH,List.length_cons,Nat.succ_mul]
   omega
noncomputable def wg (L:List Fm):List (Int × List UInt8):=L.flatMap fun f=>@ite _ f.may (Classical.propDecidable _) [(f.kind,iS f)] []
theorem ql (L:List Fm) (f:Fm):wg (L++[f])=wg L++@ite _ f.may (Classical.propDecidable _) [(f.kind,iS f)] []:=by simp [wg]
structure Gm (L:List Fm) (ms:List (Int × List UInt8)):Prop where
 len:ms.length≤L.length
 eq:ms=wg L
 ok:∀ m∈ms,0 < m.1∧m.1≤255∧m.2.length≤30000
 no:ms=[] ↔ ∀ f∈L,¬ f.may
theorem oF {k:Int} (h:K6 k):0 < k∧k≤255:=by unfold K6 at h;omega
theorem mS {α:Type} {l:List α} {k:Nat} {y:α} (hy:l[k]?=some y):l.take (k+1)=l.take k++[y]:=by rw [List.take_add_one,hy];rfl
theorem Gm.S9 {L:List Fm} {ms:List (Int × List UInt8)} (k:Gm L ms) {f:Fm} (h:¬ f.may):Gm (L++[f]) ms :=
 ⟨by have:=k.len;simp;omega,by rw [ql,← k.eq,@if_neg _ (Classical.propDecidable _) h,List.append_nil],k.ok,by
   rw [k.no]
   constructor
   · intro z x hx
     rcases List.mem_append.1 hx with hx | hx
     · exact z x hx
     · rw [List.mem_singleton.1 hx];exact h
   · exact fun z x hx=>z x (List.mem_append_left _ hx)⟩
theorem Gm.one {L:List Fm} {ms:List (Int × List UInt8)} (k:Gm L ms) {f:Fm} (h:f.may) {m:List UInt8} (hm:m.length≤30000) (he:m=iS f):Gm (L++[f]) (ms++[(f.kind,m)]) :=
 ⟨by have:=k.len;simp;omega,by rw [ql,← k.eq,@if_pos _ (Classical.propDecidable _) h,he],fun x hx=>by
   rcases List.mem_append.1 hx with hx | hx
   · exact k.ok x hx
   · rw [List.mem_singleton.1 hx];exact ⟨(oF h.kind).1,(oF h.kind).2,hm⟩,⟨fun z=>by simp at z,fun z=>absurd h (z f (List.mem_append_right _ (List.mem_singleton.2 rfl)))⟩⟩
theorem E8 {h:aj} {v:Value} (L:List Fm) (hL:Ho h v L) (w:∀ f∈L,f.xA) (hn:L.length≤100):ai Tryz.prog 9 ⟨[v]⟩ h fun u h'=>(∃ ms,Gm L ms∧Bs h h' u (xE ms)):=by
 obtain ⟨hr,hl,ok⟩:=hL
 obtain ⟨A,c,rfl,_⟩:=id hr
 refine calls [(0,_)] Tryz.func9 rfl Tryz.ntmps9 rfl ⟨rfl,trivial⟩ ?_
 refine G2 ?_;refine G2 ?_;refine G3 ?_;refine WC.block ?_;refine WC.bO (X:=Nat × Value) (fun x=>([(10,In (x.1:Int)),(3,x.2)]:Fr)) [(8,_),(9,_)] (fun x h'=>x.1≤L.length∧∃ ms,Gm (L.take x.1) ms∧Bs h h' x.2 (xE ms)) (fun x=>L.length - x.1) ((0,.slice none 0 0)) ⟨rfl,rfl,rfl,rfl,trivial⟩ (by exact ⟨Nat.zero_le _,[],⟨by simp,by simp [wg],by simp,by simp⟩,Bs.nil _⟩) ?_
 rintro ⟨k,u⟩ h1 ⟨hk,ms,fr,B1⟩
 dsimp only at hk fr B1
 refine WC.sub [(3,_),(10,_),(8,_),(9,_)] ⟨rfl,rfl,rfl,rfl,trivial⟩ ?_
 dsimp only
 refine G2 ?_;refine WC.seq ?_
 refine aJ 1 2 (Hb.mk fun hb=>?_) (Hb.mk fun hb=>?_)
 aa try (
 refine ay 1 ?_
 refine WC.skip ?_
 skip)
 aa try (
 refine ay 2 ?_
 refine WC.exit ?_
 repeat' (ae first | refine aZ ?_ | refine aF rfl ?_ | refine aL ?_ | refine aN ?_ | refine aV ?_)
 refine Br.out (i:=1000) ?_
 skip)
 aa (refine Gn ?_;first | refine Br.ad ?_ | refine WC.seq ?_)
 aa (first | refine Br.ad ?_ | refine WC.block ?_)
 aa (first | refine Br.ad ?_ | refine WC.sr ?_)
 aa (
  first
    | (refine Br.ad ?_)
    | (obtain ⟨bF,iF,U6,_,cX⟩:=Rd.at_ hr (by omega)
       obtain ⟨f,MF⟩:∃ f,L[k]?=some f:=⟨_,List.getElem?_eq_getElem (by omega)⟩
       have Kl:=List.mem_of_getElem? MF
       have hd:At h1 bF (iF+k * 10) f.cells:=At.elem Fm.len (cX.ext B1.2.1 aQ) MF
       have QH:=ok f Kl
       have oU:=xF (fun m hm=>(fr.ok m hm).2.2)
       have OR:=fr.len
       rw [List.length_take] at OR))
 aa (first | refine Br.ad ?_ | (refine WL.step (aG Tryz.underlying22 Tryz.sizeOf42 rfl rfl rfl (by omega) (by first | rfl | assumption)) rfl rfl rfl ?_))
 aa (first | refine Br.ad ?_ | (refine WL.step (aA Tryz.isAgg42 Tryz.sizeOf42 rfl rfl (by exact hd)) rfl rfl rfl ?_))
 aa (
  first
    | (refine Br.ad ?_)
    | (refine WL.al (au (fun w=>Tryz.zeroValue42 w)) rfl rfl rfl ?_
       rintro _ h2 ⟨b2,rfl,gI,bR,aK⟩))
 aa (
  first
    | (refine Br.ad ?_)
    | (refine WL.az (aq Tryz.sizeOf42 rfl rfl rfl (by assumption) rfl QH.one) rfl rfl ?_
       rintro _ h3 ⟨bC,aS⟩))
 aa (first | refine Br.ad ?_ | (have Ls:Ext No h1 h3:=aK.trans' aS (fun q hq e=>by omega)))
 aa (refine Gn ?_;first | refine Br.ad ?_ | refine WC.sr ?_)
 aa (first | refine Br.ad ?_ | (refine WL.step (aA Tryz.isAgg42 Tryz.sizeOf42 rfl rfl (by exact At.ax bC)) rfl rfl rfl ?_))
 aa (
  first
    | (refine Br.ad ?_)
    | (refine WL.call (vs:=[_]) rfl Tryz.call31 rfl (Lo f (QH.av (B1.2.1.trans Ls)) (w f Kl)) rfl rfl rfl ?_
       rintro _ h4 ⟨⟨MX,e,he,rfl⟩ | ⟨Lp,v4,m4,rfl,gk,Ta,MB⟩,bh⟩
       aa have hY:=Ls.trans bh))
 aa (refine Go ?_)
 aa (
  first
    | (refine Br.ad ?_)
    | (refine WL.al (au (fun w=>Tryz.zeroValue53 w)) rfl rfl rfl ?_
       rintro _ h5 ⟨b5,rfl,r6,cd,aO⟩))
 aa (
  first
    | (refine Br.ad ?_)
    | (refine WL.az (aq Tryz.sizeOf53 rfl rfl rfl (by assumption) rfl (by first | (obtain ⟨_,_,e,_⟩:=gk.slice;simp [Value.oneCell',e];done) | (simp [Value.oneCell'];done))) rfl rfl ?_
       rintro _ h6 ⟨cj,aP⟩))
 aa (first | refine Br.ad ?_ | (have OS:Ext No h1 h6:=hY.trans (aO.trans' aP (fun q hq e=>by omega))))
 aa (refine Go ?_;first | refine Br.ad ?_ | refine Gs [(3,_),(6,_),(7,_),(8,_),(9,_),(10,_)] ?_)
 aa (first | refine Br.ad ?_ | refine WC.sr ?_)
 aa (refine Go ?_;first | refine Br.ad ?_ | refine aJ 3 4 ?_ TT.mk)
 aa try (
 refine ay 3 ?_
 refine WC.region (Go ?_);refine WL.step (aA Tryz.isAgg53 Tryz.sizeOf53 rfl rfl (by exact At.ax cj)) rfl rfl rfl ?_
 refine WL.call (vs:=[_]) rfl Tryz.call30 rfl (DK f.kind (oF Lp.kind) m4 ((gk.ext aO (fun _ _=>aQ)).ext aP (fun q hq e=>by have:=(gk.lt hq);omega)).rd (by omega)) rfl rfl rfl ?_
 rintro v7 h7 ⟨nT,bu⟩
 have Lt:=OS.trans bu
 refine WL.al (aX (sz:=1) (bytes:=1) rfl Tryz.underlying23 (show Tryz.prog.info? 5=some Tryz.t5 by kernel_rfl) rfl rfl rfl rfl (by decide) rfl rfl (B1.1.ext Lt (fun _ _=>aQ)) nT.rd (by intro v hv;obtain ⟨x,_,rfl⟩:=List.mem_map.1 hv;rfl) (by rw [iH];simp only [maxLen];omega) (by rw [iH];omega)) rfl rfl rfl ?_
 rintro v8 h8 ⟨kC,bH,uX⟩
 refine Go ?_
 skip)
 aa try (
 refine ay 4 ?_
 refine WC.skip ?_
 skip)
 aa (refine Gn ?_;first | refine Br.ad ?_ | refine Gs [(3,_),(8,_),(9,_),(10,_)] ?_)
 aa (first | refine Br.ad ?_ | refine WC.region ?_)
 aa (refine Go ?_)
 aa (
  first
    | (refine Br.ad ?_)
    | (exact ⟨(k + 1, _), ⟨rfl, rfl, rfl, rfl, trivial⟩, (by first
        | exact ⟨by omega,ms,by rw [mS MF];exact fr.S9 MX,B1.1.ext OS (fun _ _=>aQ),B1.2.1.trans OS,B1.2.2⟩
        | (refine ⟨by omega,_,(by rw [mS MF];exact fr.one Lp MB Ta),?_,(B1.2.1.trans Lt).trans' bH (fun q hq e=>by have:=B1.2.2 q e;omega),fun q hq=>?_⟩
           · rw [CK,List.length_append,np];exact kC
           · rcases uX with e | e
             · exact B1.2.2 q (e▸hq)
             · rw [e] at hq;simp only [Option.some.injEq] at hq;have:=(B1.2.1.trans Lt).size;omega)),(by (try simp only []);omega)⟩))
 try (refine Br.mk (i:=1000) ?_)
 refine Gn ?_;refine Gs [(3,_)] ?_;refine G2 ?_;refine Gt ?_
 rw [List.take_of_length_le (by omega)] at fr
 exact ⟨ms,fr,B1⟩
theorem E9 {h : aj} (a b : bj) (ha : a.ok h) (hb : b.ok h) :
   ai Tryz.prog 190 ⟨[.agg ⟨a.cells⟩, .agg ⟨b.cells⟩]⟩ h fun u h' => u = .bool (decide (a.pl = b.pl)) ∧ Ext No h h' := by
 obtain ⟨n1, v1, l1⟩ := a
 obtain ⟨n2, v2, l2⟩ := b
 obtain ⟨ha, _⟩ := ha
 obtain ⟨hb, _⟩ := hb
 simp only at ha hb
 obtain ⟨A, c, rfl, _⟩ := id ha
 obtain ⟨B, d, rfl, _⟩ := id hb
 dsimp only [bj.cells]
 cases n1
 aa cases n2
 aa
   refine calls [(0, _), (1, _)] Tryz.func190 rfl Tryz.ntmps190 rfl ⟨rfl, rfl, trivial⟩ ?_
   aa (refine WC.sr ?_; refine WL.al (aI rfl) rfl rfl rfl ?_; rintro _ h1 ⟨b1, rfl, b0, aT, aB⟩; refine WL.al (aI rfl) rfl rfl rfl ?_; rintro _ h2 ⟨b2, rfl, gI, bR, aK⟩; have sK := aK.obj aT aQ; have hx := aB.trans aK; refine Go ?_; refine G2 ?_; refine Ld ?_; refine Go ?_; refine Ld ?_; first | (refine WL.step (bW.fN (by rfl) (ng Tryz.underlying4 rfl rfl)) rfl rfl rfl ?_) | (refine WL.step (bW.fO (by decide) (ng Tryz.underlying4 rfl rfl)) rfl rfl rfl ?_))
   aa (refine Go ?_; refine bU 10 ?_ TT.mk; refine Gg ?_; first | refine WL.pass rfl rfl rfl ?_ | refine Ld ?_)
   aa (refine Gg ?_; first | refine WL.pass rfl rfl rfl ?_ | refine Ld ?_)
   aa (
    first
      | (refine WL.pass rfl rfl rfl ?_)
      | (refine WL.call (vs := [_, _]) rfl Tryz.call12 rfl (mM l1 l2 (ha.av hx) (hb.av hx)) rfl rfl rfl ?_
         rintro _ hz ⟨rfl, _⟩
         subst hz))
   aa (refine Go ?_; refine Gs [(4, _)] ?_; refine Gt ?_; exact ⟨by simp [bj.pl], hx⟩)
theorem ud {h : aj} {v w : Value} (l m : List bj) (hl : cN h v l) (hm : cN h w m) :
   ai Tryz.prog 189 ⟨[v, w, .func (.func 190) ⟨[]⟩ ⟨[]⟩]⟩ h fun u h' => u = .bool (decide (l.map bj.pl = m.map bj.pl)) ∧ Ext No h h' := by
 obtain ⟨hr, ⟨lg, A, c, rfl, _⟩, ho⟩ := hl
 obtain ⟨hs, ⟨Df, B, d, rfl, _⟩, hp⟩ := hm
 unfold reachBytes at lg Df
 refine calls [(0, _), (1, _), (2, _)] Tryz.func189 rfl Tryz.ntmps189 rfl ⟨rfl, rfl, rfl, trivial⟩ ?_
 refine G2 ?_; refine G3 ?_; refine Gs [(0, _), (1, _), (2, _), (14, _)] ?_
 refine aJ 1 2 (Hb.mk fun hb => ?_) (Hb.mk fun hb => ?_)
 aa try (
 refine ay 1 ?_
 refine G2 ?_; refine Gs [(6, _)] ?_; refine Gt ?_
 first
  | exact ⟨by rw [decide_eq_false (fun e => by have := congrArg List.length e; simp only [List.length_map] at this; omega)], .refl _ _⟩
  | exact ⟨by rw [decide_eq_false (ix hy hz lW)], oV.trans aP⟩
  | exact ⟨by rw [decide_eq_true (by rw [List.take_of_length_le (by omega), List.take_of_length_le (by omega)] at hn; exact hn)], aB⟩
 skip)
 aa (refine ay 2 ?_)
 refine WC.skip ?_; refine Gn ?_; refine G3 ?_; refine WC.block ?_; refine WC.bO (X := Nat) (fun x => ([(17, In (x : Int))] : Fr)) [(1, _), (2, _), (15, _), (16, _)] (fun k h' => Ext No h h' ∧ k ≤ l.length ∧ l.length = m.length ∧ (l.take k).map bj.pl = (m.take k).map bj.pl) (fun k => l.length - k) (0) ⟨rfl, rfl, rfl, rfl, rfl, trivial⟩ (by exact ⟨.refl _ _, Nat.zero_le _, by omega, by simp⟩) ?_
 rintro k h1 ⟨aB, hk, hlen, hn⟩
 refine WC.sub [(17, _), (1, _), (2, _), (15, _), (16, _)] ⟨rfl, rfl, rfl, rfl, rfl, trivial⟩ ?_; refine G2 ?_; refine WC.seq ?_
 refine aJ 3 4 (Hb.mk fun hb => ?_) (Hb.mk fun hb => ?_)
 aa try (
 refine ay 3 ?_
 refine WC.skip ?_
 skip)
 aa try (
 refine ay 4 ?_
 refine WC.exit ?_
 repeat' (ae first | refine aZ ?_ | refine aF rfl ?_ | refine aL ?_ | refine aN ?_ | refine aV ?_)
 refine Br.out (i := 1000) ?_
 skip)
 aa (refine Gn ?_; first | refine Br.ad ?_ | refine WC.seq ?_)
 aa (first | refine Br.ad ?_ | refine WC.block ?_)
 aa (first | refine Br.ad ?_ | refine WC.sr ?_)
 aa (
  first
    | (refine Br.ad ?_)
    | (obtain ⟨bL, oL, hA, gx, cX⟩ := Rd.at_ (hr.av aB) (by omega)
       obtain ⟨bM, oM, hB, Nz, Ht⟩ := Rd.at_ (hs.av aB) (by omega)
       obtain ⟨y, hy⟩ : ∃ y, l[k]? = some y := ⟨_, List.getElem?_eq_getElem (by omega)⟩
       obtain ⟨z, hz⟩ : ∃ y, m[k]? = some y := ⟨_, List.getElem?_eq_getElem (by omega)⟩
       have qZ := ho y (List.mem_of_getElem? hy)
       have Kk := hp z (List.mem_of_getElem? hz)
       have wL : At h1 bL (oL + k * 2) y.cells := At.elem bj.len cX hy
       have FO : At h1 bM (oM + k * 2) z.cells := At.elem bj.len Ht hz
       have Hv : ∀ v ∈ y.cells, v.oneCell' = true := by obtain ⟨A1, c1, e1, _⟩ := qZ.1; simp [bj.cells, Value.oneCell', e1]
       have D3 : ∀ v ∈ z.cells, v.oneCell' = true := by obtain ⟨A1, c1, e1, _⟩ := Kk.1; simp [bj.cells, Value.oneCell', e1]))
 aa (first | refine Br.ad ?_ | refine WL.step (an rfl) rfl rfl rfl ?_)
 aa (first | refine Br.ad ?_ | (refine WL.step (aG Tryz.underlying40 Tryz.sizeOf85 rfl rfl rfl (by omega) (by first | rfl | assumption)) rfl rfl rfl ?_))
 aa (first | refine Br.ad ?_ | (refine WL.step (aA Tryz.isAgg85 Tryz.sizeOf85 rfl rfl (by assumption)) rfl rfl rfl ?_))
 aa (
  first
    | (refine Br.ad ?_)
    | (refine WL.al (au (fun w => Tryz.zeroValue85 w)) rfl rfl rfl ?_
       rintro _ h2 ⟨b2, rfl, gI, bR, aK⟩))
 aa (refine Go ?_)
 aa (
  first
    | (refine Br.ad ?_)
    | (refine WL.az (aq Tryz.sizeOf85 rfl rfl rfl (by assumption) rfl Hv) rfl rfl ?_
       rintro _ h3 ⟨bC, aS⟩))
 aa (first | refine Br.ad ?_ | (have gV : Ext No h1 h3 := aK.trans' aS (fun q hq e => by omega)))
 aa (refine Gn ?_; first | refine Br.ad ?_ | refine Gs [(1, _), (2, _), (7, _), (8, _), (15, _), (16, _), (17, _)] ?_)
 aa (first | refine Br.ad ?_ | refine WC.sr ?_)
 aa (refine Go ?_; first | refine Br.ad ?_ | (refine WL.step (aG Tryz.underlying40 Tryz.sizeOf85 rfl rfl rfl (by omega) (by first | rfl | assumption)) rfl rfl rfl ?_))
 aa (first | refine Br.ad ?_ | (refine WL.step (aA Tryz.isAgg85 Tryz.sizeOf85 rfl rfl (by exact FO.ext gV aQ)) rfl rfl rfl ?_))
 aa (
  first
    | (refine Br.ad ?_)
    | (refine WL.al (au (fun w => Tryz.zeroValue85 w)) rfl rfl rfl ?_
       rintro _ h4 ⟨b4, rfl, pH, bN, bh⟩))
 aa (
  first
    | (refine Br.ad ?_)
    | (refine WL.az (aq Tryz.sizeOf85 rfl rfl rfl (by assumption) rfl D3) rfl rfl ?_
       rintro _ h5 ⟨cd, aO⟩))
 aa (
  first
    | (refine Br.ad ?_)
    | (have Bb : Ext No h3 h5 := bh.trans' aO (fun q hq e => by omega)
       have vm := Bb.obj bC aQ
       have oV := aB.trans (gV.trans Bb)))
 aa (refine Gn ?_; first | refine Br.ad ?_ | refine Gs [(1, _), (2, _), (8, _), (9, _), (15, _), (16, _), (17, _)] ?_)
 aa (first | refine Br.ad ?_ | refine WC.sr ?_)
 aa (refine Go ?_; first | refine Br.ad ?_ | (refine WL.step (aA Tryz.isAgg85 Tryz.sizeOf85 rfl rfl (by exact At.ax vm)) rfl rfl rfl ?_))
 aa (first | refine Br.ad ?_ | (refine WL.step (aA Tryz.isAgg85 Tryz.sizeOf85 rfl rfl (by exact At.ax cd)) rfl rfl rfl ?_))
 aa (
  first
    | (refine Br.ad ?_)
    | (refine WL.fT (vs := [_, _]) rfl rfl Tryz.call190 rfl (E9 y z (qZ.av oV) (Kk.av oV)) rfl rfl rfl ?_
       rintro _ h6 ⟨rfl, aP⟩))
 aa (
  first
    | (refine Br.ad ?_)
    | (by_cases lW : y.pl = z.pl
       aa first | rw [decide_eq_true lW] | rw [decide_eq_false lW]))
 aa (refine Go ?_; first | refine Br.ad ?_ | refine Gs [(1, _), (2, _), (15, _), (16, _), (17, _), (30, _)] ?_)
 aa (first | refine Br.ad ?_ | refine aJ 5 6 ?_ TT.mk)
 aa try (
 refine ay 5 ?_
 refine G2 ?_; refine Gs [(6, _)] ?_; refine Gt ?_
 first
  | exact ⟨by rw [decide_eq_false (fun e => by have := congrArg List.length e; simp only [List.length_map] at this; omega)], .refl _ _⟩
  | exact ⟨by rw [decide_eq_false (ix hy hz lW)], oV.trans aP⟩
  | exact ⟨by rw [decide_eq_true (by rw [List.take_of_length_le (by omega), List.take_of_length_le (by omega)] at hn; exact hn)], aB⟩
 skip)
 aa try (
 refine ay 6 ?_
 refine WC.skip ?_
 skip)
 aa (refine Gn ?_; first | refine Br.ad ?_ | refine WC.region ?_)
 aa (refine Go ?_; first | refine Br.ad ?_ | (exact ⟨k + 1, ⟨rfl, rfl, rfl, rfl, rfl, trivial⟩, (by exact ⟨oV.trans aP, by omega, hlen, map_take hn hy hz lW⟩), (by omega)⟩))
 try (refine Br.mk (i := 1000) ?_)
 refine Gn ?_; refine Gs [] ?_; refine G2 ?_; refine Gt ?_
 first
  | exact ⟨by rw [decide_eq_false (fun e => by have := congrArg List.length e; simp only [List.length_map] at this; omega)], .refl _ _⟩
  | exact ⟨by rw [decide_eq_false (ix hy hz lW)], oV.trans aP⟩
  | exact ⟨by rw [decide_eq_true (by rw [List.take_of_length_le (by omega), List.take_of_length_le (by omega)] at hn; exact hn)], aB⟩
theorem Lu {h h0 : aj} (c : bj) (hk : c.ok h0) (hc : c.okB) : ai Tryz.prog 184 ⟨[.agg ⟨c.cells⟩]⟩ h fun u h' => u = .bool false ∧ Ext No h h' := by
 obtain ⟨nl, v, bs⟩ := c
 obtain ⟨h1, h2⟩ := hc
 obtain ⟨A, cc, e, _⟩ := hk.1
 dsimp only at e h1 h2
 subst e
 dsimp only [bj.cells]
 cases nl
 aa
   try have h1 := h1 rfl
   refine calls [(0, _)] Tryz.func184 rfl Tryz.ntmps184 rfl ⟨rfl, trivial⟩ ?_
   aa (refine WC.sr ?_; refine WL.al (aI rfl) rfl rfl rfl ?_; rintro _ h1 ⟨b1, rfl, b0, aT, aB⟩; refine Go ?_; refine G2 ?_; refine Ld ?_; refine Go ?_; refine bU 5 ?_ TT.mk; refine Gg ?_; first | refine WL.pass rfl rfl rfl ?_ | refine Ld ?_)
   aa (refine Gg ?_; refine Go ?_; refine bU 11 ?_ TT.mk; refine Gg ?_; refine Ld ?_; refine Gg ?_; refine Go ?_; refine Gs [(2, _)] ?_; refine Gt ?_; exact ⟨rfl, aB⟩)
theorem CL {h : aj} {v : Value} (R : List bj) (hR : cN h v R) (ok : ∀ c ∈ R, c.okB) (hm : R.length ≤ 65535) : ai Tryz.prog 134 ⟨[v]⟩ h fun u h' => u = .bool true ∧ Ext No h h' := by
 obtain ⟨hr, ⟨_, A, c, rfl, _⟩, ho⟩ := hR
 have kh := wX R (fun _ => false) Tryz.call184 (fs := []) (us := []) hr (by unfold maxLen; omega) (fun x hx h' AW => Lu x (ho x hx) (ok x hx))
 rw [show (R.any fun _ => false) = false by simp] at kh
 refine calls [(0, _)] Tryz.func134 rfl Tryz.ntmps134 rfl ⟨rfl, trivial⟩ ?_
 refine G2 ?_; refine G2 ?_; refine G2 ?_
 refine bU 7 ?_ TT.mk
 refine Gg ?_; refine WL.call (vs := [_, _]) rfl Tryz.call46 rfl (kh) rfl rfl rfl ?_
 rintro _ h2 ⟨rfl, aK⟩
 refine Gg ?_; refine Go ?_; refine Gs [(2, _)] ?_; refine Gt ?_
 exact ⟨rfl, aK⟩
theorem oG {f : Fm} (k : f.may) : ((f.kind = 67 ∨ f.kind = 68) ∧ (f.what = 83 ∨ f.what = 80)) ∨ (f.kind ≠ 67 ∧ f.kind ≠ 68 ∧ f.what = 0) := by
 have hw := k.what
 unfold Wh at hw
 rcases hw with ⟨h1, h2⟩ | h
 · refine .inr ⟨fun e => h1 (.inl e), fun e => h1 (.inr e), ?_⟩
   have e := congrArg (fun x => x.2.1) k.own
   simp only [Fm.pl] at e
   rw [e]
   unfold dN
   repeat' split
   aa first | rfl | (exfalso; omega)
 · exact .inl h
theorem Fa {h : aj} (f : Fm) (hf : f.ok h) (k : f.may) : ai Tryz.prog 135 ⟨[.agg ⟨f.cells⟩]⟩ h fun u h' => u = .bool true ∧ Ext No h h' := by
 have hw := oG k
 clear k
 obtain ⟨⟨e1, _⟩, ⟨e2, _⟩, ⟨e3, _⟩, e4, _⟩ := hf
 obtain ⟨fk, w, n, p, t, vo, o, vf, fs, vs, rs, vp, ps, mx⟩ := f
 dsimp only at e1 e2 e3 e4 hw
 obtain ⟨_, _, rfl, _⟩ := e1
 obtain ⟨_, _, rfl, _⟩ := e2
 obtain ⟨_, _, rfl, _⟩ := e3
 obtain ⟨_, _, rfl, _⟩ := e4
 dsimp only [Fm.cells]
 rcases hw with ⟨hw | hw, hq | hq⟩ | ⟨hw, QI, hq⟩
 aa
   refine calls [(0, _)] Tryz.func135 rfl Tryz.ntmps135 rfl ⟨rfl, trivial⟩ ?_
   aa (refine WC.sr ?_; refine WL.al (aI rfl) rfl rfl rfl ?_; rintro _ h1 ⟨b1, rfl, b0, aT, aB⟩; refine Go ?_; refine G3 ?_; refine Ld ?_; refine Go ?_; refine bU 6 ?_ TT.mk; refine Gg ?_; first | refine WL.pass rfl rfl rfl ?_ | refine Ld ?_)
   aa (refine Gg ?_; refine Go ?_; refine Gs [(1, _), (10, _)] ?_; refine aJ 1 2 ?_ TT.mk)
   aa try (
   refine ay 1 ?_
   aa (refine G2 ?_; refine Ld ?_; refine Go ?_; refine bU 14 ?_ TT.mk; refine Gg ?_; first | refine WL.pass rfl rfl rfl ?_ | refine Ld ?_)
   aa (refine Gg ?_; refine Go ?_; refine Gs [(2, _)] ?_; refine Gt ?_; first | exact ⟨rfl, aB⟩ | (exfalso; omega))
   skip)
   aa (refine ay 2 ?_; refine WC.skip ?_; refine Gn ?_; refine G2 ?_; refine Ld ?_; refine Go ?_; refine Gs [(2, _)] ?_; refine Gt ?_; first | exact ⟨rfl, aB⟩ | (exfalso; omega))
theorem Lv {h : aj} (f : Fm) (hf : f.ok h) (hw : ((f.kind = 67 ∨ f.kind = 68) ∧ (f.what = 83 ∨ f.what = 80)) ∨ (f.kind ≠ 67 ∧ f.kind ≠ 68 ∧ f.what = 0)) : ai Tryz.prog 138 ⟨[.agg ⟨f.cells⟩]⟩ h fun u h' => u = .agg ⟨(dN f).cells⟩ ∧ Ext No h h' := by
 obtain ⟨⟨e1, _⟩, ⟨e2, _⟩, ⟨e3, _⟩, e4, _⟩ := hf
 obtain ⟨fk, w, n, p, t, vo, o, vf, fs, vs, rs, vp, ps, mx⟩ := f
 dsimp only at e1 e2 e3 e4 hw
 obtain ⟨_, _, rfl, _⟩ := e1
 obtain ⟨_, _, rfl, _⟩ := e2
 obtain ⟨_, _, rfl, _⟩ := e3
 obtain ⟨_, _, rfl, _⟩ := e4
 dsimp only [Fm.cells]
 refine calls [(0, _)] Tryz.func138 rfl Tryz.ntmps138 rfl ⟨rfl, trivial⟩ ?_
 refine WC.sr ?_; refine WL.al (aI rfl) rfl rfl rfl ?_
 rintro _ h1 ⟨b1, rfl, b0, aT, aB⟩
 refine WL.al (au (fun w => Tryz.zeroValue42 w)) rfl rfl rfl ?_
 rintro _ h2 ⟨b2, rfl, gI, bR, aK⟩
 have sR := aK.obj aT aQ
 refine Gn ?_; refine G2 ?_; refine Ld ?_; refine WL.step (aH (vs := [_]) (cs := [_, _, _, _, _, _, _, _, _, _]) (fun | [a0] => [a0, (.int .u8 0), (St []), (St []), (St []), (.slice none 0 0), (.slice none 0 0), (.slice none 0 0), (.slice none 0 0), (.int .i64 0)] | _ => []) rfl rfl (by kernel_rfl)) rfl rfl rfl ?_
 refine WL.al (au (fun w => Tryz.zeroValue42 w)) rfl rfl rfl ?_
 rintro _ h3 ⟨b3, rfl, gN, bC, aS⟩
 have An := aS.obj sR aQ
 have Aq := aS.obj bR aQ
 have gS : ¬ b1 = b3 := by have := ak sR; omega
 have lP : ¬ b2 = b3 := by have := ak bR; omega
 refine WL.az (aq Tryz.sizeOf42 rfl rfl rfl (by assumption) rfl (by simp [Value.oneCell'])) rfl rfl ?_
 rintro _ h4 ⟨bN, bh⟩
 have eP := bh.obj An gS
 have fo := bh.obj Aq lP
 have pI : Ext No h h4 := ((aB.trans aK).trans aS).trans' bh (fun q hq e => by have := aB.size; have := aK.size; omega)
 refine Gn ?_; refine Gs [(1, _), (2, _), (3, _)] ?_; refine G3 ?_; refine Ld ?_; refine Gn ?_; refine WC.block ?_; refine G2 ?_
 refine aJ 1 2 (Hb.mk fun hb => ?_) (Hb.mk fun hb => ?_)
 aa try (
 refine ay 1 ?_
 refine WC.cg (fun h' => Ext (fun q => q = b3) h4 h') 11 12 rfl dB ?_
 refine WH.tk 0 rfl (fun hq hC => ag rfl Tryz.underlying42 rfl Tryz.sizeOf9) rfl rfl rfl ?_ (hC := (by first | exact Ext.refl _ _ | assumption | exact aO.trans aP | exact (aO.trans aP).trans bu))
 refine WH.tk 1 rfl (fun hq hC => aC Tryz.isAgg9 rfl (by first | exact hC.cell (by first | exact ab eP rfl | assumption) gS)) rfl rfl rfl ?_ (hC := (by first | exact Ext.refl _ _ | assumption | exact aO.trans aP | exact (aO.trans aP).trans bu))
 refine WH.tk 2 rfl (fun hq hC => ag rfl Tryz.underlying42 rfl Tryz.sizeOf9) rfl rfl rfl ?_ (hC := (by first | exact Ext.refl _ _ | assumption | exact aO.trans aP | exact (aO.trans aP).trans bu))
 refine WH.tk 3 rfl (fun hq hC => aC Tryz.isAgg9 rfl (by first | exact hC.cell (by first | exact ab eP rfl | assumption) gS)) rfl rfl rfl ?_ (hC := (by first | exact Ext.refl _ _ | assumption | exact aO.trans aP | exact (aO.trans aP).trans bu))
 refine WH.tk 4 rfl (fun hq hC => ag rfl Tryz.underlying42 rfl Tryz.sizeOf39) rfl rfl rfl ?_ (hC := (by first | exact Ext.refl _ _ | assumption | exact aO.trans aP | exact (aO.trans aP).trans bu))
 refine WH.tk 5 rfl (fun hq hC => aC Tryz.isAgg39 rfl (by first | exact hC.cell (by first | exact ab eP rfl | assumption) gS)) rfl rfl rfl ?_ (hC := (by first | exact Ext.refl _ _ | assumption | exact aO.trans aP | exact (aO.trans aP).trans bu))
 refine WH.tk 6 rfl (fun hq hC => ag rfl Tryz.underlying42 rfl Tryz.sizeOf9) rfl rfl rfl ?_ (hC := (by first | exact Ext.refl _ _ | assumption | exact aO.trans aP | exact (aO.trans aP).trans bu))
 refine WH.one 7 (by kernel_rfl) ?_
 refine aE.cY rfl (aD Tryz.sizeOf9 rfl rfl (by assumption) (Nat.le_of_ble_eq_true rfl) rfl rfl) rfl rfl ?_ (fun _ => by kernel_rfl)
 rintro _ h5 ⟨cd, aO⟩
 refine ⟨fun _ => aO, ?_⟩
 refine WH.tk 8 rfl (fun hq hC => ag rfl Tryz.underlying42 rfl Tryz.sizeOf9) rfl rfl rfl ?_ (hC := (by first | exact Ext.refl _ _ | assumption | exact aO.trans aP | exact (aO.trans aP).trans bu))
 refine WH.one 9 (by kernel_rfl) ?_
 refine aE.cY rfl (aD Tryz.sizeOf9 rfl rfl (by assumption) (Nat.le_of_ble_eq_true rfl) rfl rfl) rfl rfl ?_ (fun _ => by kernel_rfl)
 rintro _ h6 ⟨cj, aP⟩
 refine ⟨fun _ => aO.trans aP, ?_⟩
 refine WH.tk 10 rfl (fun hq hC => ag rfl Tryz.underlying42 rfl Tryz.sizeOf39) rfl rfl rfl ?_ (hC := (by first | exact Ext.refl _ _ | assumption | exact aO.trans aP | exact (aO.trans aP).trans bu))
 refine WH.one 11 (by kernel_rfl) ?_
 refine aE.cY rfl (aD Tryz.sizeOf39 rfl rfl (by assumption) (Nat.le_of_ble_eq_true rfl) rfl rfl) rfl rfl ?_ (fun _ => by kernel_rfl)
 rintro _ h7 ⟨cq, bu⟩
 refine ⟨fun _ => (aO.trans aP).trans bu, ?_⟩
 have hE := (aO.trans aP).trans bu
 have fE := hE.obj fo lP
 have gx := cq
 refine WH.done (by kernel_rfl) ?_
 skip)
 aa try (
 refine ay 2 ?_
 refine G2 ?_; refine Gs [(1, _), (2, _), (3, _), (8, _), (20, _)] ?_
 refine aJ 3 4 (Hb.mk fun hb => ?_) (Hb.mk fun hb => ?_)
 aa try (
 refine ay 3 ?_
 refine WC.seq ?_; refine WC.cg (fun h' => Ext (fun q => q = b3) h4 h') 7 8 rfl dB ?_
 refine WH.tk 0 rfl (fun hq hC => ag rfl Tryz.underlying42 rfl Tryz.sizeOf9) rfl rfl rfl ?_ (hC := (by first | exact Ext.refl _ _ | assumption | exact aO.trans aP))
 refine WH.tk 1 rfl (fun hq hC => aC Tryz.isAgg9 rfl (by first | exact hC.cell (by first | exact ab eP rfl | assumption) gS)) rfl rfl rfl ?_ (hC := (by first | exact Ext.refl _ _ | assumption | exact aO.trans aP))
 refine WH.tk 2 rfl (fun hq hC => ag rfl Tryz.underlying42 rfl Tryz.sizeOf9) rfl rfl rfl ?_ (hC := (by first | exact Ext.refl _ _ | assumption | exact aO.trans aP))
 refine WH.tk 3 rfl (fun hq hC => aC Tryz.isAgg9 rfl (by first | exact hC.cell (by first | exact ab eP rfl | assumption) gS)) rfl rfl rfl ?_ (hC := (by first | exact Ext.refl _ _ | assumption | exact aO.trans aP))
 refine WH.tk 4 rfl (fun hq hC => ag rfl Tryz.underlying42 rfl Tryz.sizeOf9) rfl rfl rfl ?_ (hC := (by first | exact Ext.refl _ _ | assumption | exact aO.trans aP))
 refine WH.one 5 (by kernel_rfl) ?_
 refine aE.cY rfl (aD Tryz.sizeOf9 rfl rfl (by assumption) (Nat.le_of_ble_eq_true rfl) rfl rfl) rfl rfl ?_ (fun _ => by kernel_rfl)
 rintro _ h5 ⟨cd, aO⟩
 refine ⟨fun _ => aO, ?_⟩
 refine WH.tk 6 rfl (fun hq hC => ag rfl Tryz.underlying42 rfl Tryz.sizeOf9) rfl rfl rfl ?_ (hC := (by first | exact Ext.refl _ _ | assumption | exact aO.trans aP))
 refine WH.one 7 (by kernel_rfl) ?_
 refine aE.cY rfl (aD Tryz.sizeOf9 rfl rfl (by assumption) (Nat.le_of_ble_eq_true rfl) rfl rfl) rfl rfl ?_ (fun _ => by kernel_rfl)
 rintro _ h6 ⟨cj, aP⟩
 refine ⟨fun _ => aO.trans aP, ?_⟩
 have QJ := aO.trans aP
 have IG := QJ.obj eP gS
 refine WH.done (by kernel_rfl) ?_
 refine Gn ?_; refine Gs [(1, _), (2, _), (3, _)] ?_; refine WC.cg (fun h' => Ext (fun q => q = b3) h6 h') 11 12 rfl dB ?_
 refine WH.tk 0 rfl (fun hq hC => ag rfl Tryz.underlying42 rfl Tryz.sizeOf39) rfl rfl rfl ?_ (hC := (by first | exact Ext.refl _ _ | assumption | exact bu.trans bH | exact (bu.trans bH).trans cl))
 refine WH.tk 1 rfl (fun hq hC => aC Tryz.isAgg39 rfl (by first | exact hC.cell (by first | exact ab IG rfl | assumption) gS)) rfl rfl rfl ?_ (hC := (by first | exact Ext.refl _ _ | assumption | exact bu.trans bH | exact (bu.trans bH).trans cl))
 refine WH.tk 2 rfl (fun hq hC => ag rfl Tryz.underlying42 rfl Tryz.sizeOf40) rfl rfl rfl ?_ (hC := (by first | exact Ext.refl _ _ | assumption | exact bu.trans bH | exact (bu.trans bH).trans cl))
 refine WH.tk 3 rfl (fun hq hC => aC Tryz.isAgg40 rfl (by first | exact hC.cell (by first | exact ab IG rfl | assumption) gS)) rfl rfl rfl ?_ (hC := (by first | exact Ext.refl _ _ | assumption | exact bu.trans bH | exact (bu.trans bH).trans cl))
 refine WH.tk 4 rfl (fun hq hC => ag rfl Tryz.underlying42 rfl Tryz.sizeOf39) rfl rfl rfl ?_ (hC := (by first | exact Ext.refl _ _ | assumption | exact bu.trans bH | exact (bu.trans bH).trans cl))
 refine WH.tk 5 rfl (fun hq hC => aC Tryz.isAgg39 rfl (by first | exact hC.cell (by first | exact ab IG rfl | assumption) gS)) rfl rfl rfl ?_ (hC := (by first | exact Ext.refl _ _ | assumption | exact bu.trans bH | exact (bu.trans bH).trans cl))
 refine WH.tk 6 rfl (fun hq hC => ag rfl Tryz.underlying42 rfl Tryz.sizeOf39) rfl rfl rfl ?_ (hC := (by first | exact Ext.refl _ _ | assumption | exact bu.trans bH | exact (bu.trans bH).trans cl))
 refine WH.one 7 (by kernel_rfl) ?_
 refine aE.cY rfl (aD Tryz.sizeOf39 rfl rfl (by assumption) (Nat.le_of_ble_eq_true rfl) rfl rfl) rfl rfl ?_ (fun _ => by kernel_rfl)
 rintro _ h7 ⟨cq, bu⟩
 refine ⟨fun _ => bu, ?_⟩
 refine WH.tk 8 rfl (fun hq hC => ag rfl Tryz.underlying42 rfl Tryz.sizeOf40) rfl rfl rfl ?_ (hC := (by first | exact Ext.refl _ _ | assumption | exact bu.trans bH | exact (bu.trans bH).trans cl))
 refine WH.one 9 (by kernel_rfl) ?_
 refine aE.cY rfl (aD Tryz.sizeOf40 rfl rfl (by assumption) (Nat.le_of_ble_eq_true rfl) rfl rfl) rfl rfl ?_ (fun _ => by kernel_rfl)
 rintro _ h8 ⟨bP, bH⟩
 refine ⟨fun _ => bu.trans bH, ?_⟩
 refine WH.tk 10 rfl (fun hq hC => ag rfl Tryz.underlying42 rfl Tryz.sizeOf39) rfl rfl rfl ?_ (hC := (by first | exact Ext.refl _ _ | assumption | exact bu.trans bH | exact (bu.trans bH).trans cl))
 refine WH.one 11 (by kernel_rfl) ?_
 refine aE.cY rfl (aD Tryz.sizeOf39 rfl rfl (by assumption) (Nat.le_of_ble_eq_true rfl) rfl rfl) rfl rfl ?_ (fun _ => by kernel_rfl)
 rintro _ h9 ⟨ck, cl⟩
 refine ⟨fun _ => (bu.trans bH).trans cl, ?_⟩
 have hE := QJ.trans ((bu.trans bH).trans cl)
 have fE := hE.obj fo lP
 have gx := ck
 refine WH.done (by kernel_rfl) ?_
 skip)
 aa try (
 refine ay 4 ?_
 refine G3 ?_
 refine aJ 5 6 (Hb.mk fun hb => ?_) (Hb.mk fun hb => ?_)
 aa try (
 refine ay 5 ?_
 refine WC.skip ?_
 skip)
 aa try (
 refine ay 6 ?_
 refine WC.region (Go ?_)
 skip)
 aa (refine Gn ?_; refine aJ 7 8 (Hb.mk fun hb => ?_) (Hb.mk fun hb => ?_))
 aa try (
 refine ay 7 ?_
 aa (refine G2 ?_; refine WL.ld rfl (by first | exact ab eP rfl | assumption) rfl rfl rfl (Go ?_); refine WL.az (aD Tryz.sizeOf5 rfl rfl (by assumption) (Nat.le_of_ble_eq_true rfl) rfl rfl) rfl rfl ?_; rintro _ h5 ⟨cd, aO⟩; have we := aO.obj eP gS; refine Gn ?_; refine Gs [(1, _), (2, _), (3, _)] ?_; refine G2 ?_; refine WL.ld rfl (by first | exact ab we rfl | assumption) rfl rfl rfl ?_; refine Gn ?_; refine WC.block ?_; refine G2 ?_; refine aJ 9 10 (Hb.mk fun hb => ?_) (Hb.mk fun hb => ?_))
 aa try (
 refine ay 9 ?_
 aa (refine WC.region (Go ?_); refine WL.ld rfl (by first | exact ab we rfl | assumption) rfl rfl rfl (Go ?_); refine WL.az (aD Tryz.sizeOf9 rfl rfl (by assumption) (Nat.le_of_ble_eq_true rfl) rfl rfl) rfl rfl ?_; rintro _ h6 ⟨cj, aP⟩; have hE := aO.trans aP; have fE := hE.obj fo lP; have gx := cj; refine Gn ?_)
 skip)
 aa try (
 refine ay 10 ?_
 aa (refine G2 ?_; refine Gs [(1, _), (2, _), (3, _), (50, _)] ?_; refine aJ 11 12 (Hb.mk fun hb => ?_) (Hb.mk fun hb => ?_))
 aa try (
 refine ay 11 ?_
 aa (refine WC.region (Go ?_); refine WL.ld rfl (by first | exact ab we rfl | assumption) rfl rfl rfl (Go ?_); refine WL.az (aD Tryz.sizeOf9 rfl rfl (by assumption) (Nat.le_of_ble_eq_true rfl) rfl rfl) rfl rfl ?_; rintro _ h6 ⟨cj, aP⟩; have hE := aO.trans aP; have fE := hE.obj fo lP; have gx := cj; refine Gn ?_)
 skip)
 aa try (
 refine ay 12 ?_
 aa (refine WC.skip ?_)
 skip)
 skip)
 skip)
 aa try (
 refine ay 8 ?_
 aa (refine G2 ?_; refine Gs [(1, _), (2, _), (3, _), (8, _), (55, _)] ?_; first | refine aJ 13 14 ?_ TT.mk | (refine aJ 13 14 (Hb.mk fun hb => ?_) (Hb.mk fun hb => ?_)))
 aa try (
 refine ay 13 ?_
 aa (refine WC.cg (fun h' => Ext (fun q => q = b3) h4 h') 7 8 rfl dB ?_; refine WH.tk 0 rfl (fun hq hC => ag rfl Tryz.underlying42 rfl Tryz.sizeOf9) rfl rfl rfl ?_ (hC := (by first | exact Ext.refl _ _ | assumption | exact aO.trans aP)); refine WH.tk 1 rfl (fun hq hC => aC Tryz.isAgg9 rfl (by first | exact hC.cell (by first | exact ab eP rfl | assumption) gS)) rfl rfl rfl ?_ (hC := (by first | exact Ext.refl _ _ | assumption | exact aO.trans aP)); refine WH.tk 2 rfl (fun hq hC => ag rfl Tryz.underlying42 rfl Tryz.sizeOf3) rfl rfl rfl ?_ (hC := (by first | exact Ext.refl _ _ | assumption | exact aO.trans aP)); refine WH.tk 3 rfl (fun hq hC => aC Tryz.isAgg3 rfl (by first | exact hC.cell (by first | exact ab eP rfl | assumption) gS)) rfl rfl rfl ?_ (hC := (by first | exact Ext.refl _ _ | assumption | exact aO.trans aP)); refine WH.tk 4 rfl (fun hq hC => ag rfl Tryz.underlying42 rfl Tryz.sizeOf9) rfl rfl rfl ?_ (hC := (by first | exact Ext.refl _ _ | assumption | exact aO.trans aP)); refine WH.one 5 (by kernel_rfl) ?_; refine aE.cY rfl (aD Tryz.sizeOf9 rfl rfl (by assumption) (Nat.le_of_ble_eq_true rfl) rfl rfl) rfl rfl ?_ (fun _ => by kernel_rfl); rintro _ h5 ⟨cd, aO⟩; refine ⟨fun _ => aO, ?_⟩; refine WH.tk 6 rfl (fun hq hC => ag rfl Tryz.underlying42 rfl Tryz.sizeOf3) rfl rfl rfl ?_ (hC := (by first | exact Ext.refl _ _ | assumption | exact aO.trans aP)); refine WH.one 7 (by kernel_rfl) ?_; refine aE.cY rfl (aD Tryz.sizeOf3 rfl rfl (by assumption) (Nat.le_of_ble_eq_true rfl) rfl rfl) rfl rfl ?_ (fun _ => by kernel_rfl); rintro _ h6 ⟨cj, aP⟩; refine ⟨fun _ => aO.trans aP, ?_⟩; have hE := aO.trans aP; have fE := hE.obj fo lP; have gx := cj; refine WH.done (by kernel_rfl) ?_)
 skip)
 aa try (
 refine ay 14 ?_
 refine G2 ?_
 refine aJ 15 16 (Hb.mk fun hb => ?_) (Hb.mk fun hb => ?_)
 aa try (
 refine ay 15 ?_
 refine WC.region (Go ?_); refine Ld ?_; refine Go ?_; refine WL.az (aD Tryz.sizeOf9 rfl rfl (by assumption) (Nat.le_of_ble_eq_true rfl) rfl rfl) rfl rfl ?_
 rintro _ h5 ⟨cd, hE⟩
 have fE := hE.obj fo lP
 have gx := cd
 refine Gn ?_
 skip)
 aa try (
 refine ay 16 ?_
 refine WC.skip ?_
 skip)
 skip)
 skip)
 skip)
 skip)
 aa (refine Gn ?_; refine WC.sr ?_; first | have := hE | (have U7 := hw; exfalso; clear hw; omega) | (exfalso; rcases hw with ⟨h1, h2 | h2⟩ | ⟨h1, h2, h3⟩; · exact absurd h2 (by assumption); · exact absurd h2 (by assumption); · (first | exact absurd (by assumption) h1 | exact absurd (by assumption) h2)) | skip)
 aa (refine WL.step (aA Tryz.isAgg42 Tryz.sizeOf42 rfl rfl (by exact (by first | exact At.ax gx | exact At.ax bN))) rfl rfl rfl ?_; refine WL.az (aq Tryz.sizeOf42 rfl rfl rfl (by first | exact fE | exact fo) rfl (by simp [Value.oneCell'])) rfl rfl ?_; rintro _ h9 ⟨ck, cl⟩; refine Gn ?_; refine WC.ret ?_; repeat' (ae first | refine bq ?_ | refine ba ?_))
 aa (refine cA _ ⟨⟨_, rfl, bJ Tryz.isAgg42 Tryz.sizeOf42 (by assumption) rfl⟩, trivial⟩ ?_)
 aa (
  have gr := aB.size
  have qC := aK.size
  refine ⟨?_, by first | exact (pI.trans' hE (fun q hq e => by omega)).trans' cl (fun q hq e => by omega) | exact pI.trans' cl (fun q hq e => by omega)⟩
  first
   | (exfalso; clear hw; omega)
   | (simp only [dN, if_pos, *]; rfl)
   | (simp [dN, zF, Fm.cells, *]; done))
theorem Fb {h : aj} (a b : Fm) (ha : a.ok h) (hb : b.ok h) (e : a.pl = b.pl) :
   ai Tryz.prog 137 ⟨[.agg ⟨a.cells⟩, .agg ⟨b.cells⟩]⟩ h fun u h' => u = .bool true ∧ Ext No h h' := by
 obtain ⟨k1, w1, n1, p1, t1, PN, o1, PO, f1, QA, r1, S3, c1, m1⟩ := a
 obtain ⟨k2, w2, n2, p2, t2, PQ, o2, PR, f2, S4, r2, Jq, c2, m2⟩ := b
 simp only [Fm.pl, Prod.mk.injEq] at e
 obtain ⟨rfl, rfl, rfl, rfl, rfl, rfl, rfl, rfl, ec, rfl⟩ := e
 obtain ⟨⟨ao, lo⟩, ⟨af, lf⟩, ⟨Iy, ls⟩, ap⟩ := ha
 obtain ⟨⟨bo, _⟩, ⟨bf, _⟩, ⟨Iz, _⟩, bp⟩ := hb
 simp only at ao af Iy ap bo bf Iz bp lo lf ls
 obtain ⟨Ao, co, rfl, _⟩ := id ao
 obtain ⟨Bo, PV, rfl, _⟩ := id bo
 obtain ⟨Af, cf, rfl, _⟩ := id af
 obtain ⟨Bf, df, rfl, _⟩ := id bf
 obtain ⟨As, cs, rfl, _⟩ := id Iy
 obtain ⟨Bs, ds, rfl, _⟩ := id Iz
 have kc := fun {g : aj} (x : Ext No h g) => ud c1 c2 (ap.av x) (bp.av x)
 rw [decide_eq_true ec] at kc
 obtain ⟨_, ⟨_, Ap, cp, rfl, _⟩, _⟩ := id ap
 obtain ⟨_, ⟨_, Bp, dp, rfl, _⟩, _⟩ := id bp
 dsimp only [Fm.cells]
 refine calls [(0, _), (1, _)] Tryz.func137 rfl Tryz.ntmps137 rfl ⟨rfl, rfl, trivial⟩ ?_
 refine WC.sr ?_; refine WL.al (aI rfl) rfl rfl rfl ?_
 rintro _ g1 ⟨b1, rfl, b0, aT, aB⟩
 refine WL.al (aI rfl) rfl rfl rfl ?_
 rintro _ g2 ⟨b2, rfl, gI, bR, aK⟩
 have sK := aK.obj aT aQ
 have hx := aB.trans aK
 refine Go ?_; refine G2 ?_; refine Ld ?_; refine Go ?_; refine Ld ?_; refine Go ?_; refine Ld ?_; refine WL.step (aH (vs := [_, _, _]) (cs := [_, _, _]) (fun | [a0, a1, a2] => [a0, a1, a2] | _ => []) rfl rfl (by kernel_rfl)) rfl rfl rfl (Go ?_)
 refine Ld ?_; refine Go ?_; refine Ld ?_; refine Go ?_; refine Ld ?_; refine WL.step (aH (vs := [_, _, _]) (cs := [_, _, _]) (fun | [a0, a1, a2] => [a0, a1, a2] | _ => []) rfl rfl (by kernel_rfl)) rfl rfl rfl ?_
 refine WL.step (bW.fN rfl (qO (us := [n1, p1, t1]) (vs := [n1, p1, t1]) Tryz.underlying251 (show Tryz.prog.info? 9 = some Tryz.t9 by kernel_rfl) Tryz.underlying9 (by kernel_rfl) (by kernel_rfl) (by kernel_rfl) rfl rfl rfl rfl)) rfl rfl rfl (Go ?_)
 refine Gs [(2, _), (3, _), (5, _)] ?_; refine G2 ?_; refine Ld ?_; refine Go ?_; refine Ld ?_; refine WL.call (vs := [_, _]) rfl Tryz.call188 rfl ((ju o1 o1 (ao.av hx) (bo.av hx) lo).as (congrArg Value.bool (decide_eq_true rfl))) rfl rfl rfl ?_
 rintro _ hz ⟨rfl, _⟩
 subst hz
 refine Go ?_
 refine bU 27 ?_ TT.mk
 refine Gg ?_; refine Ld ?_; refine Gg ?_; refine Ld ?_; refine WL.call (vs := [_, _]) rfl Tryz.call188 rfl ((ju f1 f1 (af.av hx) (bf.av hx) lf).as (congrArg Value.bool (decide_eq_true rfl))) rfl rfl rfl ?_
 rintro _ hz ⟨rfl, _⟩
 subst hz
 refine Go ?_
 refine bU 34 ?_ TT.mk
 refine Gg ?_; refine Ld ?_; refine Gg ?_; refine Ld ?_; refine WL.call (vs := [_, _]) rfl Tryz.call188 rfl ((ju r1 r1 (Iy.av hx) (Iz.av hx) ls).as (congrArg Value.bool (decide_eq_true rfl))) rfl rfl rfl ?_
 rintro _ hz ⟨rfl, _⟩
 subst hz
 refine Go ?_; refine Gs [(2, _), (3, _), (5, _), (6, _)] ?_; refine G2 ?_; refine Ld ?_; refine Go ?_; refine Ld ?_; refine Go ?_
 refine bU 46 ?_ TT.mk
 refine Gg ?_; refine Ld ?_; refine Gg ?_; refine Ld ?_; refine Gg ?_; refine Go ?_
 refine bU 53 ?_ TT.mk
 refine Gg ?_; refine Ld ?_; refine Gg ?_; refine Ld ?_; refine Gg ?_; refine Go ?_
 refine bU 60 ?_ TT.mk
 refine Gg ?_; refine Go ?_
 refine bU 63 ?_ TT.mk
 refine Gg ?_; refine Go ?_
 refine bU 66 ?_ TT.mk
 refine Gg ?_; refine Ld ?_; refine Gg ?_; refine Ld ?_; refine WL.call (vs := [_, _, _]) rfl Tryz.call189 rfl (kc hx) rfl rfl rfl ?_
 rintro _ g3 ⟨rfl, aS⟩
 refine Go ?_; refine Gs [(4, _)] ?_; refine Gt ?_
 exact ⟨rfl, hx.trans aS⟩
theorem oH {l:List Int} {lo hi:Int} (hm:l.length≤65535) (h:∀ n∈l,lo≤n∧n≤hi):nq l lo hi=true:=by
 unfold nq
 rw [decide_eq_true hm,show (l.any fun n=>decide (n < lo) || decide (hi < n))=false from List.any_eq_false.2 fun n hn=>by have:=h n hn;simp;omega]
 rfl
theorem ue {k:Int} (h:K6 k) {g:aj}:ai Tryz.prog 93 ⟨[.int .u8 k]⟩ g fun u h'=>u=In 1∧Ext No g h':=by
 obtain ⟨k8,Tb,Tc⟩:∃ k8:UInt8,Value.int .u8 k=By k8∧jd k8=1:=by
   rcases h with rfl | rfl | rfl | rfl | rfl | rfl | rfl | rfl | rfl
   · exact ⟨66,rfl,by decide⟩
   · exact ⟨67,rfl,by decide⟩
   · exact ⟨68,rfl,by decide⟩
   · exact ⟨69,rfl,by decide⟩
   · exact ⟨72,rfl,by decide⟩
   · exact ⟨80,rfl,by decide⟩
   · exact ⟨81,rfl,by decide⟩
   · exact ⟨83,rfl,by decide⟩
   · exact ⟨88,rfl,by decide⟩
 rw [Tb,← Tc]
 exact sM k8
theorem CM {h:aj} (f:Fm) (hf:f.ok h) (w:f.xA) (k:f.may):ai Tryz.prog 97 ⟨[.agg ⟨f.cells⟩]⟩ h fun u h'=>u=In 0∧Ext No h h':=by
 have Fc:=fun {g:aj}=>ue (g:=g) k.kind
 have pf:=fun {g:aj} (x:Ext No h g)=>Lv f (hf.av x) (oG k)
 have yj:=fun {g:aj} (x:Ext No h g)=>Fb f (dN f) (hf.av x) (ub (hf.av x)) k.own
 have Lw:=fun {g:aj} (x:Ext No h g)=>Fa f (hf.av x) k
 have ht:[f.name,f.bm,f.text].all bn=true:=by simp [k.name,k.bm,k.text]
 have w1:=oH (lo:=0) (hi:=4294967295) (by have:=w.aU;omega) k.aU
 have w2:=oH (lo:=0) (hi:=65535) (by have:=w.bX;omega) k.bX
 have w3:=oH (lo:=0) (hi:=65535) (by have:=w.results;omega) k.results
 have GO:=k.max
 have QK:=k.params
 clear k
 generalize Jd:dN f=ob at pf yj
 obtain ⟨Gj,Gk,Gl,zG,CF,IA,IB,IC⟩:=w
 obtain ⟨⟨e1,l1⟩,⟨e2,l2⟩,⟨e3,l3⟩,e4⟩:=hf
 obtain ⟨fk,w,n,p,t,vo,o,vf,fs,vs,rs,vp,ps,mx⟩:=f
 dsimp only at e1 e2 e3 e4 l1 l2 l3 Gj Gk Gl zG GO QK ht w1 w2 w3 Fc
 have k1:=fun {g:aj} (x:Ext No h g)=>iw o 0 4294967295 (e1.av x) l1
 have k2:=fun {g:aj} (x:Ext No h g)=>iw fs 0 65535 (e2.av x) l2
 have k3:=fun {g:aj} (x:Ext No h g)=>iw rs 0 65535 (e3.av x) l3
 have k4:=fun {g:aj} (x:Ext No h g)=>CL ps (e4.av x) QK (by omega)
 rw [w1] at k1
 rw [w2] at k2
 rw [w3] at k3
 obtain ⟨A1,z1,rfl,_⟩:=id e1
 obtain ⟨A2,z2,rfl,_⟩:=id e2
 obtain ⟨A3,z3,rfl,_⟩:=id e3
 obtain ⟨_,⟨_,A4,z4,rfl,_⟩,_⟩:=id e4
 dsimp only [Fm.cells] at pf yj Lw ⊢
 refine calls [(0,_)] Tryz.func97 rfl Tryz.ntmps97 rfl ⟨rfl,trivial⟩ ?_
 refine WC.sr ?_;refine WL.al (aI rfl) rfl rfl rfl ?_
 rintro _ g1 ⟨b1,rfl,b0,aT,aB⟩
 refine Go ?_;refine G3 ?_;refine Ld ?_;refine WL.call (vs:=[_]) rfl Tryz.call93 rfl (Fc) rfl rfl rfl ?_
 rintro _ g2 ⟨rfl,aK⟩
 have bR:=aK.obj aT aQ
 have X2:=aB.trans aK
 refine Go ?_;refine Gs [(1,_),(7,_)] ?_
 refine aJ 1 2 ?_ TT.mk
 aa (refine ay 2 ?_)
 refine WC.skip ?_;refine Gn ?_;refine G2 ?_;refine Ld ?_;refine WL.call (vs:=[_,_,_]) rfl Tryz.call133 rfl (k1 X2) rfl rfl rfl ?_
 rintro _ g3 ⟨rfl,aS⟩
 have bC:=aS.obj bR aQ
 have X3:=X2.trans aS
 refine Go ?_
 refine bU 11 ?_ TT.mk
 refine Gg ?_;refine Ld ?_;refine WL.call (vs:=[_,_,_]) rfl Tryz.call133 rfl (k2 X3) rfl rfl rfl ?_
 rintro _ g4 ⟨rfl,bh⟩
 have bN:=bh.obj bC aQ
 have X4:=X3.trans bh
 refine Go ?_
 refine bU 16 ?_ TT.mk
 refine Gg ?_;refine Ld ?_;refine WL.call (vs:=[_,_,_]) rfl Tryz.call133 rfl (k3 X4) rfl rfl rfl ?_
 rintro _ g5 ⟨rfl,aO⟩
 have cd:=aO.obj bN aQ
 have X5:=X4.trans aO
 refine Go ?_
 refine bU 21 ?_ TT.mk
 refine Gg ?_;refine Ld ?_;refine WL.call (vs:=[_]) rfl Tryz.call134 rfl (k4 X5) rfl rfl rfl ?_
 rintro _ g6 ⟨rfl,aP⟩
 have cj:=aP.obj cd aQ
 have X6:=X5.trans aP
 refine Go ?_;refine Gs [(1,_),(3,_)] ?_;refine WC.seq ?_;refine WC.sr ?_;refine WL.step (aA Tryz.isAgg42 Tryz.sizeOf42 rfl rfl (by exact At.ax cj)) rfl rfl rfl ?_
 refine WL.call (vs:=[_]) rfl Tryz.call135 rfl (Lw X6) rfl rfl rfl ?_
 rintro _ g7 ⟨rfl,bu⟩
 have cq:=bu.obj cj aQ
 have X7:=X6.trans bu
 refine Go ?_
 refine bU 29 ?_ TT.mk
 refine Gg ?_;refine Go ?_
 refine bU 33 ?_ TT.mk
 refine Gg ?_;refine Ld ?_;refine Gg ?_;refine Ld ?_;refine Gg ?_;refine Ld ?_;refine WL.al (aw (vs:=[_,_,_]) (cs:=[_,_,_]) (fun | [a0,a1,a2]=>[a0,a1,a2] | _=>[]) Tryz.underlying249 rfl rfl (by kernel_rfl)) rfl rfl rfl ?_
 rintro _ g8 ⟨b8,rfl,Ha,bP,bH⟩
 have ck:=bH.obj cq aQ
 have X8:=X7.trans bH
 refine WL.call (vs:=[_]) rfl Tryz.call136 rfl (sJ [n,p,t] (bG bP rfl) (by simp [maxLen])) rfl rfl rfl ?_
 rintro _ hz ⟨rfl,_⟩
 subst hz
 rw [ht]
 refine Gg ?_;refine Go ?_
 refine bU 44 ?_ TT.mk
 refine Gg ?_;refine Ld ?_;refine Gg ?_;refine Go ?_
 refine bU 49 ?_ TT.mk
 refine Gg ?_;refine Ld ?_;refine Gg ?_;refine Go ?_;refine Gs [(1,_),(53,_)] ?_
 refine aJ 3 4 ?_ TT.mk
 aa (refine ay 4 ?_)
 refine WC.skip ?_;refine Gn ?_;refine WC.seq ?_;refine WC.seq ?_;refine WC.cg (fun h'=>h'[b1]?=some (.cells ⟨[.int .u8 fk,.int .u8 w,St n,St p,St t,.slice A1 o.length z1,.slice A2 fs.length z2,.slice A3 rs.length z3,.slice A4 ps.length z4,In mx]⟩ 42 (0,0))) 5 5 rfl dB ?_
 refine WH.tk 0 rfl (fun hq hC=>aA Tryz.isAgg42 Tryz.sizeOf42 rfl rfl (by exact At.ax hC)) rfl rfl rfl ?_ (hC:=(by first | exact px | exact ga | exact ck))
 refine WH.tk 1 rfl (fun hq hC=>aA Tryz.isAgg42 Tryz.sizeOf42 rfl rfl (by exact At.ax hC)) rfl rfl rfl ?_ (hC:=(by first | exact px | exact ga | exact ck))
 refine WH.one 2 (by kernel_rfl) ?_
 refine aE.call (vs:=[_]) rfl rfl Tryz.call138 rfl (pf X8) rfl rfl rfl ?_ (fun _=>by kernel_rfl)
 rintro _ g10 ⟨rfl,cC⟩
 have ga:=cC.obj ck aQ
 have Ax:=X8.trans cC
 refine ⟨fun _=>ga,?_⟩
 refine WH.one 3 (by kernel_rfl) ?_
 refine aE.call (vs:=[_,_]) rfl rfl Tryz.call137 rfl (yj Ax) rfl rfl rfl ?_ (fun _=>by kernel_rfl)
 rintro _ g11 ⟨rfl,cV⟩
 have px:=cV.obj ga aQ
 refine ⟨fun _=>px,?_⟩
 refine WH.tk 4 rfl (fun hq hC=>dI rfl) rfl rfl rfl ?_ (hC:=(by first | exact px | exact ga | exact ck))
 refine WH.done (by kernel_rfl) ?_
 refine Gn ?_;refine Gs [(58,_)] ?_
 refine aJ 5 6 ?_ TT.mk
 aa (refine ay 6 ?_)
 refine WC.skip ?_;refine Gn ?_;refine G2 ?_;refine Gt ?_
 exact ⟨rfl,Ax.trans cV⟩
structure Hid (p:Prop):Prop where
 out:p
theorem jG {v:Value} {q:Nat} (h:dG v [] q):False:=by
 rcases h with ⟨h,_⟩ | ⟨c,h,_⟩
 · exact absurd h (Nat.lt_irrefl 0)
 · exact nomatch h
theorem Td {w:Int} (h:w=83∨w=80):[UInt8.ofNat w.toNat]=be w 1:=by
 rcases h with rfl | rfl <;> rfl
def Dt (n:Int):Int:=if n < 0 then n+4294967296 else n
theorem IH {n:Int} (h : -2147483648≤n):be n 4=be (Dt n) 4:=by
 unfold Dt
 split
 · have h:∀ i,i < 4→bI (n+256 ^ 4) i=bI n i:=fun i hi=>Ak hi
   exact (jt (m:=n+256 ^ 4) (n:=n) h (by decide) 4).symm
 · rfl
theorem CN {h:aj} {n:Int} (hn : -2147483648≤n∧n≤2147483647):ai Tryz.prog 131 ⟨[In (Dt n),In 4]⟩ h fun u h'=>u=In n∧h'=h:=by
 have kz:=fun h'=>xC (h:=h') (s:=4) (.inr (.inr rfl))
 have ks:=fun h'=>Ai (h:=h') 4 (.inr (.inr rfl))
 simp only [show ((256:Int) ^ 4)=4294967296 from rfl] at ks
 have hu:Dt n=if n < 0 then n+4294967296 else n:=rfl
 by_cases h0:n < 0
 · rw [if_pos h0] at hu
   generalize Dt n=m at hu ⊢
   refine calls [(0,_),(1,_)] Tryz.func131 rfl Tryz.ntmps131 rfl ⟨rfl,rfl,trivial⟩ ?_
   refine G2 ?_;refine G3 ?_;refine WL.call (vs:=[_]) rfl Tryz.call180 rfl (kz _) rfl rfl rfl ?_
   rintro _ hz ⟨rfl,_⟩
   subst hz
   refine Go ?_
   refine aJ 1 2 ?_ TT.mk
   aa (refine ay 2 ?_)
   refine WC.skip ?_;refine Gn ?_;refine Gs [(0,_),(1,_)] ?_;refine G3 ?_;refine WL.call (vs:=[_]) rfl Tryz.call181 rfl (ks _) rfl rfl rfl ?_
   rintro _ hz ⟨rfl,_⟩
   subst hz
   refine WL.step (js rfl rfl (by decide) (kV (by omega) (by decide))) rfl rfl rfl ?_
   rw [show (4294967296:Int).tdiv 2=2147483648 from rfl]
   refine Go ?_;refine G2 ?_
   refine bU 16 ?_ TT.mk
   refine Gg ?_;refine WL.call (vs:=[_]) rfl Tryz.call181 rfl (ks _) rfl rfl rfl ?_
   rintro _ hz ⟨rfl,_⟩
   subst hz
   refine Gg ?_;refine Go ?_;refine Gs [(0,_),(1,_),(21,_)] ?_
   refine aJ 3 4 ?_ TT.mk
   aa (refine ay 3 ?_)
   refine WC.region (Go ?_);refine WL.call (vs:=[_]) rfl Tryz.call181 rfl (ks _) rfl rfl rfl ?_
   rintro _ hz ⟨rfl,_⟩
   subst hz
   refine Go ?_;refine Gn ?_;refine G2 ?_;refine Gs [(4,_)] ?_;refine Gt ?_
   exact ⟨congrArg In (by omega),rfl⟩
 · rw [if_neg h0] at hu
   generalize Dt n=m at hu ⊢
   refine calls [(0,_),(1,_)] Tryz.func131 rfl Tryz.ntmps131 rfl ⟨rfl,rfl,trivial⟩ ?_
   refine G2 ?_;refine G3 ?_;refine WL.call (vs:=[_]) rfl Tryz.call180 rfl (kz _) rfl rfl rfl ?_
   rintro _ hz ⟨rfl,_⟩
   subst hz
   refine Go ?_
   refine aJ 1 2 ?_ TT.mk
   aa (refine ay 2 ?_)
   refine WC.skip ?_;refine Gn ?_;refine Gs [(0,_),(1,_)] ?_;refine G3 ?_;refine WL.call (vs:=[_]) rfl Tryz.call181 rfl (ks _) rfl rfl rfl ?_
   rintro _ hz ⟨rfl,_⟩
   subst hz
   refine WL.step (js rfl rfl (by decide) (kV (by omega) (by decide))) rfl rfl rfl ?_
   rw [show (4294967296:Int).tdiv 2=2147483648 from rfl]
   refine Go ?_;refine G2 ?_
   refine bU 16 ?_ TT.mk
   refine Gg ?_;refine WL.pass rfl rfl rfl ?_;refine Gg ?_;refine Go ?_;refine Gs [(0,_),(1,_),(21,_)] ?_
   refine aJ 3 4 ?_ TT.mk
   aa (refine ay 4 ?_)
   refine WC.skip ?_;refine Gn ?_;refine G2 ?_;refine Gs [(4,_)] ?_;refine Gt ?_
   exact ⟨congrArg In (by omega),rfl⟩
abbrev Te:=Int × Int × List UInt8 × List UInt8 × List UInt8 × List Int × List Int × List Int × List (Bool × List UInt8) × Int
theorem oI (f:Fm):(dN f).pl=(if f.kind=80 then (f.kind,0,f.name,[],f.text,f.aU,[],[],[],0)
   else if f.kind=66 then (f.kind,0,f.name,f.bm,[],[],f.bX,f.results,f.params.map bj.pl,0)
   else if f.kind=67∨f.kind=68 then (if f.what=83 then (f.kind,f.what,f.name,[],[],[],[],[],[],0) else (f.kind,f.what,[],f.bm,[],[],[],[],[],0))
   else if f.kind=69 then (f.kind,0,[],f.bm,[],[],[],[],[],f.max)
   else if f.kind=81 then (f.kind,0,[],[],f.text,[],[],[],[],0)
   else (f.kind,0,[],[],[],[],[],[],[],0):Te):=by
 unfold dN
 repeat' split
 aa rfl
def Fm.A (f:Fm) (q:Nat):Prop:=f.vo.ownBlock=some q∨f.vf.ownBlock=some q∨f.vs.ownBlock=some q∨dG f.vp f.params q
theorem eN (h:aj):Rd h (.slice none 0 0) 1 ([]:List Int).length (ints []):=Rd.nil _ _
theorem Fe {h:aj} {b:Nat} {v:Value} (f:Fm) (w:f.xA) (k:f.may) (sc:Sc h b v (iS f)) (hv:∀ q,v.ownBlock=some q→q < h.size) :
   ai Tryz.prog 95 ⟨[.agg ⟨[.pointer (some ⟨b,0,none⟩)]⟩,.int .u8 f.kind]⟩ h fun u h'=>∃ (g:Fm) (v':Value),u=.agg ⟨g.cells⟩∧g.pl=f.pl∧g.ok h'∧(∀ q,g.A q→h.size≤q)∧Sc h' b v' []∧Ext (fun q=>q=b) h h':=by
 have QC:=ak sc.bB
 have l4:=oE w.params w.cells
 have hE:iS f=(if f.kind=80 then f.name++[0]++f.text++[0]++be f.aU.length 2++dO 4 f.aU
   else if f.kind=66 then f.bm++[0]++f.name++[0]++be f.bX.length 2++dO 2 f.bX++be f.params.length 2++gd (f.params.map bj.pl)++be f.results.length 2++dO 2 f.results
   else if f.kind=67∨f.kind=68 then [UInt8.ofNat f.what.toNat]++(f.name++f.bm)++[0]
   else if f.kind=69 then f.bm++[0]++be f.max 4
   else if f.kind=81 then f.text++[0]
   else []):=rfl
 have hK:=oI f
 rw [← k.own] at hK
 have Lw:Hid ((f.kind=67∨f.kind=68)→(f.what=83∨f.what=80)):=⟨fun z=>(oG k).elim (fun y=>y.2) (fun y=>(z.elim y.1 y.2.1).elim)⟩
 have c1:=k.name
 have c2:=k.bm
 have c3:=k.text
 have m1:=k.aU
 have m2:=k.bX
 have m3:=k.results
 have m4:=k.params
 have m5:=k.max
 have QL:bn (f.name++f.bm)=true:=by rw [jE,c1,c2];rfl
 have QM:∀ c∈f.params.map bj.pl,(c.1=true→c.2.length=0)∧c.2.length≤1000000:=fun c hc=>by
   obtain ⟨d,hd,rfl⟩:=List.mem_map.1 hc
   exact ⟨(m4 d hd).1,by have:=w.cells d hd;show d.bytes.length≤_;omega⟩
 have Lx:=oF k.kind
 clear k m4
 obtain ⟨Gj,Gk,Gl,zG,CF,IA,IB,IC⟩:=w
 clear CF
 generalize iS f=EM at hE sc
 have Je:f.pl=(f.kind,f.what,f.name,f.bm,f.text,f.aU,f.bX,f.results,f.params.map bj.pl,f.max):=rfl
 generalize f.pl=PL at hK Je ⊢
 obtain ⟨fk,ww,n,p,t,vo,o,vf,fs,vs,rs,vp,ps,mx⟩:=f
 dsimp only at hE hK Lw c1 c2 c3 m1 m2 m3 QM m5 QL Gj Gk Gl zG IA IB IC l4 Je Lx ⊢
 generalize hR:ps.map bj.pl=R at *
 have Tf:R.length≤50:=by rw [← hR,List.length_map];exact zG
 have eR:((ps.length:Nat):Int)=((R.length:Nat):Int):=by rw [← hR,List.length_map]
 rw [eR] at hE
 refine calls [(0,_),(1,_)] Tryz.func95 rfl Tryz.ntmps95 rfl ⟨rfl,rfl,trivial⟩ ?_
 refine WC.sr ?_;refine WL.al (aI rfl) rfl rfl rfl ?_
 rintro _ h1 ⟨b1,rfl,b0,aT,aB⟩
 refine WL.al (au (fun w=>Tryz.zeroValue42 w)) rfl rfl rfl ?_
 rintro _ h2 ⟨b2,rfl,gI,bR,aK⟩
 refine Gn ?_;refine G2 ?_;refine WL.step (aH (vs:=[_]) (cs:=[_,_,_,_,_,_,_,_,_,_]) (fun | [a0]=>[a0,(.int .u8 0),(St []),(St []),(St []),(.slice none 0 0),(.slice none 0 0),(.slice none 0 0),(.slice none 0 0),(.int .i64 0)] | _=>[]) rfl rfl (by kernel_rfl)) rfl rfl rfl ?_
 refine WL.al (au (fun w=>Tryz.zeroValue42 w)) rfl rfl rfl ?_
 rintro _ h3 ⟨b3,rfl,gN,bC,aS⟩
 refine WL.az (aq Tryz.sizeOf42 rfl rfl rfl (by assumption) rfl (by simp [Value.oneCell'])) rfl rfl ?_
 rintro _ h4 ⟨bN,bh⟩
 have s1:=aB.size
 have s2:=aK.size
 have l1:=ak aT
 have l2:=ak bR
 have n3:b3 ≠ b:=by omega
 have n1:b1 ≠ b:=by omega
 have n2:b2 ≠ b:=by omega
 have X4:Ext No h h4:=((aB.trans aK).trans aS).trans' bh (fun q hq e=>by omega)
 have bT:=bh.obj ((aK.trans aS).obj aT aQ) (fun e=>by omega)
 have qR:=bh.obj (aS.obj bR aQ) (fun e=>by omega)
 have wh:=sc.ext X4 aQ (fun _ _=>aQ)
 have QN:∀ q,v.ownBlock=some q→q < h4.size:=fun q hq=>(by have:=hv q hq;have:=X4.size;omega)
 have s4:=X4.size
 have gS:b1 ≠ b3:=by omega
 have lP:b2 ≠ b3:=by omega
 refine Gn ?_;refine G3 ?_;refine Gs [(2,_),(4,_),(5,_),(9,_)] ?_;refine WC.block ?_;refine G2 ?_
 refine aJ 1 2 (Hb.mk fun hb=>?_) (Hb.mk fun hb=>?_)
 aa try (
 refine ay 1 ?_
 refine WC.sr ?_
 have Ff:Sc h4 b v (n++[0]++(t++[0]++(be (o.length:Int) 2++(dO 4 o++[])))):=by rw [hE,if_pos (by omega)] at wh;simpa using wh
 refine WL.step (ag rfl Tryz.underlying161 rfl Tryz.sizeOf158) rfl rfl rfl ?_;refine WL.ld rfl (by first | exact ab bT rfl | assumption) rfl rfl rfl ?_
 refine WL.call (vs:=[_]) rfl Tryz.call128 rfl (gb c1 Ff (by simp [bA,cL];omega)) rfl rfl rfl ?_
 rintro _ h5 ⟨v5,rfl,k5,aO,pw⟩
 have du:=aO.obj bT n1
 have iQ:=aO.obj bN n3
 refine Go ?_;refine WL.az (aD Tryz.sizeOf9 rfl rfl iQ (Nat.le_of_ble_eq_true rfl) rfl rfl) rfl rfl ?_
 rintro _ h6 ⟨cj,aP⟩
 have dK:=aP.obj du gS
 have k6:=k5.ext aP (fun e=>n3 e.symm) (fun q hq e=>by have:=hv q (pw q hq);omega)
 refine Gn ?_;refine Gs [(2,_),(4,_),(5,_)] ?_;refine G2 ?_;refine WL.ld rfl (by first | exact ab dK rfl | assumption) rfl rfl rfl ?_
 refine WL.call (vs:=[_]) rfl Tryz.call128 rfl (gb c3 k6 (by simp [bA,cL];omega)) rfl rfl rfl ?_
 rintro _ h7 ⟨v7,rfl,k7,bu,CO⟩
 have lT:=bu.obj dK n1
 have rR:=bu.obj cj n3
 refine Go ?_;refine WL.az (aD Tryz.sizeOf9 rfl rfl rR (Nat.le_of_ble_eq_true rfl) rfl rfl) rfl rfl ?_
 rintro _ h8 ⟨bP,bH⟩
 have gl:=bH.obj lT gS
 have kG:Ext (fun q=>q=b∨q=b3) h4 h8:=(((aO.mono fun _ _ e=>.inl e).trans (aP.mono fun _ _ e=>.inr e)).trans (bu.mono fun _ _ e=>.inl e)).trans (bH.mono fun _ _ e=>.inr e)
 have Gp:=pw.trans CO
 have k8:=k7.ext bH (fun e=>n3 e.symm) (fun q hq e=>by have:=hv q (Gp q hq);omega)
 have s8:=kG.size
 refine Gn ?_;refine Gs [(2,_),(4,_),(5,_)] ?_;refine WC.region ?_;refine WL.step (aA Tryz.isAgg161 Tryz.sizeOf161 rfl rfl (by exact At.ax gl)) rfl rfl rfl ?_
 refine WL.call (vs:=[_,_]) rfl Tryz.call129 rfl (rQ (s:=4) (.inr (.inr rfl)) o (fun n hn=>by have:=m1 n hn;omega) (by omega) [] k8 (fun q hq=>by have:=hv q (Gp q hq);omega) (by simp [bA,cL];omega)) rfl rfl rfl ?_
 rintro u9 h9 ⟨v9,Gq,k9,cl,MG,xG⟩
 obtain ⟨A9,c9,rfl,_⟩:=Gq.slice
 have II:=cl.obj bP n3
 refine Go ?_;refine WL.az (aD Tryz.sizeOf39 rfl rfl II (Nat.le_of_ble_eq_true rfl) rfl rfl) rfl rfl ?_
 rintro _ jf ⟨ga,cC⟩
 have tS:=k9.ext cC (fun e=>n3 e.symm) (fun q hq e=>by have:=hv q (Gp q (MG q hq));omega)
 have nU:=Gq.rd.ext' cC (fun q _ hq e=>by have:=xG q hq;have:=ak bP;omega)
 have Ax:Ext (fun q=>q=b∨q=b3) h4 jf:=(kG.trans (cl.mono fun _ _ e=>.inl e)).trans (cC.mono fun _ _ e=>.inr e)
 obtain ⟨g,hg⟩:∃ g:Fm,g=⟨fk,0,n,[],t,.slice A9 o.length c9,o,.slice none 0 0,[],.slice none 0 0,[],.slice none 0 0,[],0⟩:=⟨_,rfl⟩
 have gC:jf[b3]?=some (.cells ⟨g.cells⟩ 42 (0,0)):=by subst hg;exact ga
 have gP:g.pl=PL:=by rw [hK,if_pos (by omega)];subst hg;rfl
 have gO:g.ok jf:=by subst hg;exact ⟨⟨nU,by show o.length≤_;unfold maxLen;omega⟩,⟨eN _,Nat.zero_le _⟩,⟨eN _,Nat.zero_le _⟩,gy _⟩
 have gA:∀ q,g.A q→h4.size≤q∧q ≠ b3∧q ≠ b2:=fun q hq=>(by subst hg;exact hq.elim (fun e=>by have:=xG q e;have:=ak bP;omega) (fun e=>e.elim (fun e=>by cases e) (fun e=>e.elim (fun e=>by cases e) (fun e=>(jG e).elim))))
 have kZ:=tS
 have XZ:=Ax
 have Ds:=Gp.trans MG
 refine Gn ?_
 skip)
 aa try (
 refine ay 2 ?_
 refine G2 ?_
 refine aJ 3 4 (Hb.mk fun hb=>?_) (Hb.mk fun hb=>?_)
 aa try (
 refine ay 3 ?_
 refine WC.sr ?_
 have Ff:Sc h4 b v (p++[0]++(n++[0]++(be (fs.length:Int) 2++(dO 2 fs++(be (R.length:Int) 2++(gd R++(be (rs.length:Int) 2++(dO 2 rs++[])))))))):=by rw [hE,if_neg (by omega),if_pos (by omega)] at wh;simpa using wh
 refine WL.step (ag rfl Tryz.underlying161 rfl Tryz.sizeOf158) rfl rfl rfl ?_;refine WL.ld rfl (by first | exact ab bT rfl | assumption) rfl rfl rfl ?_
 refine WL.call (vs:=[_]) rfl Tryz.call128 rfl (gb c2 Ff (by simp [bA,cL];omega)) rfl rfl rfl ?_
 rintro _ h5 ⟨v5,rfl,k5,aO,pw⟩
 have du:=aO.obj bT n1
 have iQ:=aO.obj bN n3
 refine Go ?_;refine WL.az (aD Tryz.sizeOf9 rfl rfl iQ (Nat.le_of_ble_eq_true rfl) rfl rfl) rfl rfl ?_
 rintro _ h6 ⟨cj,aP⟩
 have dK:=aP.obj du gS
 have k6:=k5.ext aP (fun e=>n3 e.symm) (fun q hq e=>by have:=hv q (pw q hq);omega)
 refine Gn ?_;refine Gs [(2,_),(4,_),(5,_)] ?_;refine G2 ?_;refine WL.ld rfl (by first | exact ab dK rfl | assumption) rfl rfl rfl ?_
 refine WL.call (vs:=[_]) rfl Tryz.call128 rfl (gb c1 k6 (by simp [bA,cL];omega)) rfl rfl rfl ?_
 rintro _ h7 ⟨v7,rfl,k7,bu,CO⟩
 have lT:=bu.obj dK n1
 have rR:=bu.obj cj n3
 refine Go ?_;refine WL.az (aD Tryz.sizeOf9 rfl rfl rR (Nat.le_of_ble_eq_true rfl) rfl rfl) rfl rfl ?_
 rintro _ h8 ⟨bP,bH⟩
 have gl:=bH.obj lT gS
 have kG:Ext (fun q=>q=b∨q=b3) h4 h8:=(((aO.mono fun _ _ e=>.inl e).trans (aP.mono fun _ _ e=>.inr e)).trans (bu.mono fun _ _ e=>.inl e)).trans (bH.mono fun _ _ e=>.inr e)
 have Gp:=pw.trans CO
 have k8:=k7.ext bH (fun e=>n3 e.symm) (fun q hq e=>by have:=hv q (Gp q hq);omega)
 have s8:=kG.size
 refine Gn ?_;refine Gs [(2,_),(4,_),(5,_)] ?_;refine WC.sr ?_;refine WL.step (aA Tryz.isAgg161 Tryz.sizeOf161 rfl rfl (by exact At.ax gl)) rfl rfl rfl ?_
 refine WL.call (vs:=[_,_]) rfl Tryz.call129 rfl (rQ (s:=2) (.inr (.inl rfl)) fs (fun n hn=>by have:=m2 n hn;omega) (by omega) _ k8 (fun q hq=>by have:=hv q (Gp q hq);omega) (by simp [bA,cL];omega)) rfl rfl rfl ?_
 rintro u9 h9 ⟨v9,Gq,k9,cl,MG,xG⟩
 obtain ⟨A9,c9,rfl,_⟩:=Gq.slice
 have II:=cl.obj bP n3
 have H5:=cl.obj gl n1
 refine Go ?_;refine WL.az (aD Tryz.sizeOf39 rfl rfl II (Nat.le_of_ble_eq_true rfl) rfl rfl) rfl rfl ?_
 rintro _ jf ⟨ga,cC⟩
 have IJ:=Gp.trans MG
 have tS:=k9.ext cC (fun e=>n3 e.symm) (fun q hq e=>by have:=hv q (IJ q hq);omega)
 have nU:=Gq.rd.ext' cC (fun q _ hq e=>by have:=xG q hq;have:=ak bP;omega)
 have Ax:Ext (fun q=>q=b∨q=b3) h4 jf:=(kG.trans (cl.mono fun _ _ e=>.inl e)).trans (cC.mono fun _ _ e=>.inr e)
 have oJ:=cC.obj H5 gS
 have Sm:=Ax.size
 have s9:=cl.size
 have Tg:=cC.size
 refine Gn ?_;refine WC.sr ?_;refine WL.step (aA Tryz.isAgg161 Tryz.sizeOf161 rfl rfl (by exact At.ax oJ)) rfl rfl rfl ?_
 refine WL.call (vs:=[_]) rfl Tryz.call130 rfl (IE R QM (by omega) _ tS (fun q hq=>by have:=hv q (IJ q hq);omega) (by simp [bA,cL];omega)) rfl rfl rfl ?_
 rintro U8 rr ⟨v11,QO,Ly,OT,Ck,cV,OU,Fg⟩
 obtain ⟨_,⟨_,Th,Oc,rfl,_⟩,_⟩:=id Ly
 have Lz:=cV.obj ga n3
 have LA:=cV.obj oJ n1
 have vY:=nU.ext' cV (fun q _ hq e=>by have:=xG q hq;omega)
 refine Go ?_;refine WL.az (aD Tryz.sizeOf40 rfl rfl Lz (Nat.le_of_ble_eq_true rfl) rfl rfl) rfl rfl ?_
 rintro _ r7 ⟨ca,eQ⟩
 have Fh:=IJ.trans OU
 have Dn:=Ck.ext eQ (fun e=>n3 e.symm) (fun q hq e=>by have:=hv q (Fh q hq);omega)
 have IK:=vY.ext' eQ (fun q _ hq e=>by have:=xG q hq;have:=ak bP;omega)
 have OV:=Ly.ext eQ (fun q hq e=>by have:=Fg q hq;have:=ak ga;omega)
 have JB:Ext (fun q=>q=b∨q=b3) h4 r7:=(Ax.trans (cV.mono fun _ _ e=>.inl e)).trans (eQ.mono fun _ _ e=>.inr e)
 have LB:=eQ.obj LA gS
 have Sr:=JB.size
 have Sn:=cV.size
 have QP:=eQ.size
 refine Gn ?_;refine Gs [(2,_),(4,_),(5,_)] ?_;refine WC.region ?_;refine WL.step (aA Tryz.isAgg161 Tryz.sizeOf161 rfl rfl (by exact At.ax LB)) rfl rfl rfl ?_
 refine WL.call (vs:=[_,_]) rfl Tryz.call129 rfl (rQ (s:=2) (.inr (.inl rfl)) rs (fun n hn=>by have:=m3 n hn;omega) (by omega) _ Dn (fun q hq=>by have:=hv q (Fh q hq);omega) (by simp [bA,cL];omega)) rfl rfl rfl ?_
 rintro U9 H6 ⟨Va,LC,Of,gV,LD,LF⟩
 obtain ⟨QQ,QR,rfl,_⟩:=LC.slice
 have LG:=gV.obj ca n3
 have LH:=IK.ext' gV (fun q _ hq e=>by have:=xG q hq;omega)
 have OW:=OV.ext gV (fun q hq e=>by have:=Fg q hq;omega)
 refine Go ?_;refine WL.az (aD Tryz.sizeOf39 rfl rfl LG (Nat.le_of_ble_eq_true rfl) rfl rfl) rfl rfl ?_
 rintro _ ED ⟨LI,iP⟩
 have Ds:=Fh.trans LD
 have kZ:=Of.ext iP (fun e=>n3 e.symm) (fun q hq e=>by have:=hv q (Fh q (LD q hq));omega)
 have XZ:Ext (fun q=>q=b∨q=b3) h4 ED:=(JB.trans (gV.mono fun _ _ e=>.inl e)).trans (iP.mono fun _ _ e=>.inr e)
 obtain ⟨g,hg⟩:∃ g:Fm,g=⟨fk,0,n,p,[],.slice none 0 0,[],.slice A9 fs.length c9,fs,.slice QQ rs.length QR,rs,.slice Th QO.length Oc,QO,0⟩:=⟨_,rfl⟩
 have gC:ED[b3]?=some (.cells ⟨g.cells⟩ 42 (0,0)):=by subst hg;exact LI
 have gP:g.pl=PL:=by rw [hK,if_neg (by omega),if_pos (by omega)];subst hg;rw [← OT];rfl
 have gO:g.ok ED:=by subst hg;exact ⟨⟨eN _,Nat.zero_le _⟩,⟨LH.ext' iP (fun q _ hq e=>by have:=xG q hq;have:=ak bP;omega),by show fs.length≤_;unfold maxLen;omega⟩,⟨LC.rd.ext' iP (fun q _ hq e=>by have:=LF q hq;have:=ak ca;omega),by show rs.length≤_;unfold maxLen;omega⟩,OW.ext iP (fun q hq e=>by have:=Fg q hq;have:=ak ga;omega)⟩
 have gA:∀ q,g.A q→h4.size≤q∧q ≠ b3∧q ≠ b2:=fun q hq=>(by subst hg;exact hq.elim (fun e=>by cases e) (fun e=>e.elim (fun e=>by have:=xG q e;have:=ak bP;omega) (fun e=>e.elim (fun e=>by have:=LF q e;have:=ak ca;omega) (fun e=>by have:=Fg q e;have:=ak ga;omega))))
 refine Gn ?_
 skip)
 aa try (
 refine ay 4 ?_
 refine G3 ?_;refine Gs [(2,_),(4,_),(5,_),(9,_),(42,_)] ?_
 refine aJ 5 6 (Hb.mk fun hb=>?_) (Hb.mk fun hb=>?_)
 aa try (
 refine ay 5 ?_
 refine WC.skip ?_
 skip)
 aa try (
 refine ay 6 ?_
 refine WC.region (Go ?_)
 skip)
 aa (refine Gn ?_;refine aJ 7 8 (Hb.mk fun hb=>?_) (Hb.mk fun hb=>?_))
 aa try (
 refine ay 7 ?_
 aa (refine WC.sr ?_;have QI:=Lw.out (by omega);have eW:=Td QI;(have Ff:Sc h4 b v (be ww 1++((n++p)++[0]++[])):=by rw [hE,if_neg (by omega),if_neg (by omega),if_pos (by omega),eW] at wh;simpa using wh);refine WL.step (ag rfl Tryz.underlying161 rfl Tryz.sizeOf158) rfl rfl rfl ?_;refine WL.ld rfl (by first | exact ab bT rfl | assumption) rfl rfl rfl ?_;refine WL.call (vs:=[_,_]) rfl Tryz.call122 rfl (jF (s:=1) (.inl rfl) (by omega) (by omega) _ Ff (by simp [bA];omega)) rfl rfl rfl ?_;rintro _ h5 ⟨v5,rfl,k5,aO,pw⟩;have du:=aO.obj bT n1;have iQ:=aO.obj bN n3;refine WL.step (pG Tryz.underlying3 Tryz.underlying5 rfl (by omega)) rfl rfl rfl (Go ?_);refine WL.az (aD Tryz.sizeOf5 rfl rfl iQ (Nat.le_of_ble_eq_true rfl) rfl rfl) rfl rfl ?_;rintro _ h6 ⟨cj,aP⟩;have dK:=aP.obj du gS;have k6:=k5.ext aP (fun e=>n3 e.symm) (fun q hq e=>by have:=hv q (pw q hq);omega);refine Gn ?_;refine Gs [(2,_),(4,_),(5,_)] ?_;refine G2 ?_;refine WL.ld rfl (by first | exact ab dK rfl | assumption) rfl rfl rfl ?_;refine WL.call (vs:=[_]) rfl Tryz.call128 rfl (gb QL k6 (by simp;omega)) rfl rfl rfl ?_;rintro _ h7 ⟨v7,rfl,k7,bu,CO⟩;have rR:=bu.obj cj n3;refine Go ?_;refine Gs [(4,_),(5,_),(6,_)] ?_;refine G2 ?_;refine WL.ld rfl (by first | exact ab rR rfl | assumption) rfl rfl rfl (Go ?_);refine aJ 9 10 (Hb.mk fun hb=>?_) (Hb.mk fun hb=>?_))
 aa try (
 refine ay 9 ?_
 aa (refine WC.region (Go ?_);refine WL.az (aD Tryz.sizeOf9 rfl rfl rR (Nat.le_of_ble_eq_true rfl) rfl rfl) rfl rfl ?_;rintro _ h8 ⟨bP,bH⟩)
 aa (
  have Ds:=pw.trans CO
  have kZ:=k7.ext bH (fun e=>n3 e.symm) (fun q hq e=>by have:=hv q (pw q (CO q hq));omega)
  have XZ:Ext (fun q=>q=b∨q=b3) h4 h8:=(((aO.mono fun _ _ e=>.inl e).trans (aP.mono fun _ _ e=>.inr e)).trans (bu.mono fun _ _ e=>.inl e)).trans (bH.mono fun _ _ e=>.inr e)
  obtain ⟨g,hg⟩:∃ g:Fm,g=⟨fk,ww,n++p,[],[],.slice none 0 0,[],.slice none 0 0,[],.slice none 0 0,[],.slice none 0 0,[],0⟩:=⟨_,rfl⟩
  have gC:h8[b3]?=some (.cells ⟨g.cells⟩ 42 (0,0)):=by subst hg;exact bP
  rw [if_neg (by omega),if_neg (by omega),if_pos (by omega),if_pos (by omega)] at hK
  have Mr:p=[]:=congrArg (fun x=>x.2.2.2.1) (Je.symm.trans hK)
  have gP:g.pl=PL:=by rw [hK];subst hg Mr;simp [Fm.pl]
  have gO:g.ok h8:=by subst hg;exact ⟨⟨eN _,Nat.zero_le _⟩,⟨eN _,Nat.zero_le _⟩,⟨eN _,Nat.zero_le _⟩,gy _⟩
  have gA:∀ q,g.A q→h4.size≤q∧q ≠ b3∧q ≠ b2:=fun q hq=>(by subst hg;exact hq.elim (fun e=>by cases e) (fun e=>e.elim (fun e=>by cases e) (fun e=>e.elim (fun e=>by cases e) (fun e=>(jG e).elim)))))
 aa (refine Gn ?_)
 skip)
 aa try (
 refine ay 10 ?_
 aa (refine WC.region (Go ?_);refine WL.az (aD Tryz.sizeOf9 rfl rfl rR (Nat.le_of_ble_eq_true rfl) rfl rfl) rfl rfl ?_;rintro _ h8 ⟨bP,bH⟩)
 aa (
  have Ds:=pw.trans CO
  have kZ:=k7.ext bH (fun e=>n3 e.symm) (fun q hq e=>by have:=hv q (pw q (CO q hq));omega)
  have XZ:Ext (fun q=>q=b∨q=b3) h4 h8:=(((aO.mono fun _ _ e=>.inl e).trans (aP.mono fun _ _ e=>.inr e)).trans (bu.mono fun _ _ e=>.inl e)).trans (bH.mono fun _ _ e=>.inr e)
  obtain ⟨g,hg⟩:∃ g:Fm,g=⟨fk,ww,[],n++p,[],.slice none 0 0,[],.slice none 0 0,[],.slice none 0 0,[],.slice none 0 0,[],0⟩:=⟨_,rfl⟩
  have gC:h8[b3]?=some (.cells ⟨g.cells⟩ 42 (0,0)):=by subst hg;exact bP
  rw [if_neg (by omega),if_neg (by omega),if_pos (by omega),if_neg (by omega)] at hK
  have GW:n=[]:=congrArg (fun x=>x.2.2.1) (Je.symm.trans hK)
  have gP:g.pl=PL:=by rw [hK];subst hg GW;simp [Fm.pl]
  have gO:g.ok h8:=by subst hg;exact ⟨⟨eN _,Nat.zero_le _⟩,⟨eN _,Nat.zero_le _⟩,⟨eN _,Nat.zero_le _⟩,gy _⟩
  have gA:∀ q,g.A q→h4.size≤q∧q ≠ b3∧q ≠ b2:=fun q hq=>(by subst hg;exact hq.elim (fun e=>by cases e) (fun e=>e.elim (fun e=>by cases e) (fun e=>e.elim (fun e=>by cases e) (fun e=>(jG e).elim)))))
 aa (refine Gn ?_)
 skip)
 skip)
 aa try (
 refine ay 8 ?_
 aa (refine G2 ?_;first | refine aJ 11 12 ?_ TT.mk | (refine aJ 11 12 (Hb.mk fun hb=>?_) (Hb.mk fun hb=>?_)))
 aa try (
 refine ay 11 ?_
 aa (refine WC.sr ?_;(have Ff:Sc h4 b v (p++[0]++(be (Dt mx) 4++[])):=by rw [hE,if_neg (by omega),if_neg (by omega),if_neg (by omega),if_pos (by omega),IH m5.1] at wh;simpa using wh);have hu:0≤Dt mx∧Dt mx < 256 ^ 4:=by unfold Dt;split <;> omega)
 aa (refine WL.step (ag rfl Tryz.underlying161 rfl Tryz.sizeOf158) rfl rfl rfl ?_;refine WL.ld rfl (by first | exact ab bT rfl | assumption) rfl rfl rfl ?_;refine WL.call (vs:=[_]) rfl Tryz.call128 rfl (gb c2 Ff (by simp [bA];omega)) rfl rfl rfl ?_;rintro _ h5 ⟨v5,rfl,k5,aO,pw⟩;have du:=aO.obj bT n1;have iQ:=aO.obj bN n3;refine Go ?_;refine WL.az (aD Tryz.sizeOf9 rfl rfl iQ (Nat.le_of_ble_eq_true rfl) rfl rfl) rfl rfl ?_;rintro _ h6 ⟨cj,aP⟩;have dK:=aP.obj du gS;have k6:=k5.ext aP (fun e=>n3 e.symm) (fun q hq e=>by have:=hv q (pw q hq);omega);refine Gn ?_;refine Gs [(2,_),(4,_),(5,_)] ?_;refine WC.region (Go ?_);refine WL.ld rfl (by first | exact ab dK rfl | assumption) rfl rfl rfl ?_;refine WL.call (vs:=[_,_]) rfl Tryz.call122 rfl (jF (s:=4) (.inr (.inr rfl)) hu.1 hu.2 _ k6 (by simp [bA])) rfl rfl rfl ?_;rintro _ h7 ⟨v7,rfl,k7,bu,CO⟩;have rR:=bu.obj cj n3;refine WL.call (vs:=[_,_]) rfl Tryz.call131 rfl (CN m5) rfl rfl rfl ?_;rintro _ hz ⟨rfl,_⟩;subst hz;refine Go ?_;refine WL.az (aD Tryz.sizeOf3 rfl rfl rR (Nat.le_of_ble_eq_true rfl) rfl rfl) rfl rfl ?_;rintro _ h8 ⟨bP,bH⟩;have Ds:=pw.trans CO;have kZ:=k7.ext bH (fun e=>n3 e.symm) (fun q hq e=>by have:=hv q (pw q (CO q hq));omega);have XZ:Ext (fun q=>q=b∨q=b3) h4 h8:=(((aO.mono fun _ _ e=>.inl e).trans (aP.mono fun _ _ e=>.inr e)).trans (bu.mono fun _ _ e=>.inl e)).trans (bH.mono fun _ _ e=>.inr e);obtain ⟨g,hg⟩:∃ g:Fm,g=⟨fk,0,[],p,[],.slice none 0 0,[],.slice none 0 0,[],.slice none 0 0,[],.slice none 0 0,[],mx⟩:=⟨_,rfl⟩;(have gC:h8[b3]?=some (.cells ⟨g.cells⟩ 42 (0,0)):=by subst hg;exact bP);(have gP:g.pl=PL:=by rw [hK,if_neg (by omega),if_neg (by omega),if_neg (by omega),if_pos (by omega)];subst hg;rfl);(have gO:g.ok h8:=by subst hg;exact ⟨⟨eN _,Nat.zero_le _⟩,⟨eN _,Nat.zero_le _⟩,⟨eN _,Nat.zero_le _⟩,gy _⟩);(have gA:∀ q,g.A q→h4.size≤q∧q ≠ b3∧q ≠ b2:=fun q hq=>(by subst hg;exact hq.elim (fun e=>by cases e) (fun e=>e.elim (fun e=>by cases e) (fun e=>e.elim (fun e=>by cases e) (fun e=>(jG e).elim)))));refine Gn ?_)
 skip)
 aa try (
 refine ay 12 ?_
 refine G2 ?_;refine Gs [(2,_),(4,_),(5,_),(71,_)] ?_
 refine aJ 13 14 (Hb.mk fun hb=>?_) (Hb.mk fun hb=>?_)
 aa try (
 refine ay 13 ?_
 refine WC.region ?_
 have Ff:Sc h4 b v (t++[0]++[]):=by rw [hE,if_neg (by omega),if_neg (by omega),if_neg (by omega),if_neg (by omega),if_pos (by omega)] at wh;simpa using wh
 refine WL.step (ag rfl Tryz.underlying161 rfl Tryz.sizeOf158) rfl rfl rfl ?_;refine WL.ld rfl (by first | exact ab bT rfl | assumption) rfl rfl rfl ?_
 refine WL.call (vs:=[_]) rfl Tryz.call128 rfl (gb c3 Ff (by simp;omega)) rfl rfl rfl ?_
 rintro _ h5 ⟨v5,rfl,k5,aO,pw⟩
 have iQ:=aO.obj bN n3
 refine Go ?_;refine WL.az (aD Tryz.sizeOf9 rfl rfl iQ (Nat.le_of_ble_eq_true rfl) rfl rfl) rfl rfl ?_
 rintro _ h6 ⟨cj,aP⟩
 have Ds:=pw
 have kZ:=k5.ext aP (fun e=>n3 e.symm) (fun q hq e=>by have:=hv q (pw q hq);omega)
 have XZ:Ext (fun q=>q=b∨q=b3) h4 h6:=(aO.mono fun _ _ e=>.inl e).trans (aP.mono fun _ _ e=>.inr e)
 obtain ⟨g,hg⟩:∃ g:Fm,g=⟨fk,0,[],[],t,.slice none 0 0,[],.slice none 0 0,[],.slice none 0 0,[],.slice none 0 0,[],0⟩:=⟨_,rfl⟩
 have gC:h6[b3]?=some (.cells ⟨g.cells⟩ 42 (0,0)):=by subst hg;exact cj
 have gP:g.pl=PL:=by rw [hK,if_neg (by omega),if_neg (by omega),if_neg (by omega),if_neg (by omega),if_pos (by omega)];subst hg;rfl
 have gO:g.ok h6:=by subst hg;exact ⟨⟨eN _,Nat.zero_le _⟩,⟨eN _,Nat.zero_le _⟩,⟨eN _,Nat.zero_le _⟩,gy _⟩
 have gA:∀ q,g.A q→h4.size≤q∧q ≠ b3∧q ≠ b2:=fun q hq=>(by subst hg;exact hq.elim (fun e=>by cases e) (fun e=>e.elim (fun e=>by cases e) (fun e=>e.elim (fun e=>by cases e) (fun e=>(jG e).elim))))
 refine Gn ?_
 skip)
 aa try (
 refine ay 14 ?_
 refine WC.skip ?_
 skip)
 skip)
 skip)
 skip)
 skip)
 aa (refine Gn ?_;refine WC.sr ?_)
 aa (
  first
   | (have qq:=gP;clear qq)
   | (exfalso;omega)
   | (rw [hE,if_neg (by omega),if_neg (by omega),if_neg (by omega),if_neg (by omega),if_neg (by omega)] at wh
      have kZ:=wh
      have Ds:=SO.refl v
      have XZ:Ext (fun q=>q=b∨q=b3) h4 h4:=.refl _ _
      obtain ⟨g,hg⟩:∃ g:Fm,g=zF fk:=⟨_,rfl⟩
      have gC:h4[b3]?=some (.cells ⟨g.cells⟩ 42 (0,0)):=by subst hg;exact bN
      have gP:g.pl=PL:=by rw [hK,if_neg (by omega),if_neg (by omega),if_neg (by omega),if_neg (by omega),if_neg (by omega)];subst hg;rfl
      have gO:g.ok h4:=by subst hg;exact ⟨⟨eN _,Nat.zero_le _⟩,⟨eN _,Nat.zero_le _⟩,⟨eN _,Nat.zero_le _⟩,gy _⟩
      have gA:∀ q,g.A q→h4.size≤q∧q ≠ b3∧q ≠ b2:=fun q hq=>(by subst hg;exact hq.elim (fun e=>by cases e) (fun e=>e.elim (fun e=>by cases e) (fun e=>e.elim (fun e=>by cases e) (fun e=>(jG e).elim))))))
 aa (refine WL.step (aA Tryz.isAgg42 Tryz.sizeOf42 rfl rfl (by exact At.ax gC)) rfl rfl rfl ?_;refine WL.az (aq Tryz.sizeOf42 rfl rfl rfl (XZ.obj qR (fun e=>e.elim (fun e=>n2 e) (fun e=>lP e))) rfl gO.one) rfl rfl ?_;rintro _ hZ ⟨Ti,JC⟩;refine Gn ?_;refine WC.ret ?_;repeat' (ae first | refine bq ?_ | refine ba ?_))
 aa (refine cA _ ⟨⟨_,rfl,bJ Tryz.isAgg42 Tryz.sizeOf42 Ti rfl⟩,trivial⟩ ?_;exact ⟨g,_,rfl,gP,⟨⟨gO.1.1.ext' JC (fun q _ hq e=>(gA q (.inl hq)).2.2 e),gO.1.2⟩,⟨gO.2.1.ext' JC (fun q _ hq e=>(gA q (.inr (.inl hq))).2.2 e),gO.2.2⟩,⟨gO.3.1.ext' JC (fun q _ hq e=>(gA q (.inr (.inr (.inl hq)))).2.2 e),gO.3.2⟩,gO.4.ext JC (fun q hq e=>(gA q (.inr (.inr (.inr hq)))).2.2 e)⟩,fun q hq=>by have:=(gA q hq).1;omega,kZ.ext JC (fun e=>n2 e.symm) (fun q hq e=>by have:=hv q (Ds q hq);omega),(X4.mono (S':=fun q=>q=b) fun _ _ e=>e.elim).trans' ((XZ.mono (S':=fun q=>q=b∨q=b3∨q=b2) fun q _ e=>e.elim .inl (fun e=>.inr (.inl e))).trans (JC.mono fun q _ e=>.inr (.inr e))) (fun q hq e=>by rcases e with e | e | e;exact e;exact absurd e (by omega);exact absurd e (by omega))⟩)
theorem IL {f g:Fm} (h:g.pl=f.pl) (w:f.xA):g.xA:=by
 simp only [Fm.pl,Prod.mk.injEq] at h
 obtain ⟨h1,h2,h3,h4,h5,h6,h7,h8,h9,jf⟩:=h
 have hl:=congrArg List.length h9
 rw [List.length_map,List.length_map] at hl
 refine ⟨h6▸w.aU,h7▸w.bX,h8▸w.results,by have:=w.params;omega,fun c hc=>?_,h3▸w.name,h4▸w.bm,h5▸w.text⟩
 obtain ⟨d,hd,e⟩:=List.mem_map.1 (show c.pl∈f.params.map bj.pl by rw [← h9];exact List.mem_map.2 ⟨c,hc,rfl⟩)
 have:=congrArg (fun x=>x.2.length) e
 have:=w.cells d hd
 simp only [bj.pl] at *
 omega
theorem IM {f g:Fm} (h:g.pl=f.pl) (k:f.may):g.may:=by
 have hk:(dN g).pl=(dN f).pl:=by
   rw [oI,oI]
   simp only [Fm.pl,Prod.mk.injEq] at h
   obtain ⟨h1,h2,h3,h4,h5,h6,h7,h8,h9,jf⟩:=h
   rw [h1,h2,h3,h4,h5,h6,h7,h8,h9,jf]
 have ho:g.pl=(dN g).pl:=by rw [hk,h];exact k.own
 simp only [Fm.pl,Prod.mk.injEq] at h
 obtain ⟨h1,h2,h3,h4,h5,h6,h7,h8,h9,jf⟩:=h
 refine ⟨h1▸k.kind,h3▸k.name,h4▸k.bm,h5▸k.text,h6▸k.aU,h7▸k.bX,h8▸k.results,fun c hc=>?_,by rw [h1,h2];exact k.what,by rw [jf];exact k.max,ho⟩
 obtain ⟨d,hd,e⟩:=List.mem_map.1 (show c.pl∈f.params.map bj.pl by rw [← h9];exact List.mem_map.2 ⟨c,hc,rfl⟩)
 have:=k.params d hd
 simp only [bj.pl,Prod.mk.injEq] at e
 exact ⟨fun z=>by rw [← e.2];exact this.1 (by rw [e.1];exact z),by rw [← e.2];exact this.2⟩
theorem lB {f:Fm} (w:f.xA):(iS f).length≤30000:=by
 obtain ⟨Gj,Gk,Gl,zG,CF,IA,IB,IC⟩:=w
 have l4:=oE zG CF
 unfold iS
 repeat' split
 aa (simp [bA,cL];try omega)
theorem zd {h:aj} {w:Value} (l:List UInt8) (hr:Rd h w 1 l.length (bK l)) (hm:l.length≤1000000):ai Tryz.prog 94 ⟨[w]⟩ h fun u h'=>∃ b v,u=.pointer (some ⟨b,0,none⟩)∧Sc h' b v l∧Ext No h h'∧h.size≤b∧(∀ q,v.ownBlock=some q→h.size≤q)∧∀ q,v.ownBlock=some q→q < h'.size:=by
 refine calls [(0,_)] Tryz.func94 rfl Tryz.ntmps94 rfl ⟨rfl,trivial⟩ ?_
 refine G2 ?_;refine G2 ?_;refine WL.call (vs:=[_]) rfl Tryz.call127 rfl (j8 l hr hm) rfl rfl rfl ?_
 rintro v1 h1 ⟨kE,aB,iO⟩
 obtain ⟨A1,c1,rfl,_⟩:=id kE.slice
 refine WL.step (aH (vs:=[_,_]) (cs:=[_,_,_]) (fun | [a0,a2]=>[a0,(.bool false),a2] | _=>[]) rfl rfl (by kernel_rfl)) rfl rfl rfl ?_
 refine WL.al (aI rfl) rfl rfl rfl ?_
 rintro _ h2 ⟨b2,rfl,gI,bR,aK⟩
 refine Go ?_;refine Gs [(2,_)] ?_;refine Gt ?_
 exact ⟨b2,_,rfl,⟨bR,(kE.ext aK (fun _ _=>aQ)).rd,fun q hq e=>by have:=kE.lt hq;omega⟩,aB.trans aK,by have:=aB.size;omega,iO,fun q hq=>by have:=kE.lt hq;have:=aK.size;omega⟩
theorem ze {h:aj} {v:Value} (f:Fm) (w:f.xA) (k:f.may) (hr:Rd h v 1 (iS f).length (bK (iS f))) :
   ai Tryz.prog 56 ⟨[.agg ⟨[.int .u8 f.kind,v]⟩]⟩ h fun u h'=>∃ g:Fm,u=.tuple ⟨[.agg ⟨g.cells⟩,In 0]⟩∧g.pl=f.pl∧g.ok h'∧(∀ q,g.A q→h.size≤q)∧Ext No h h':=by
 have Fc:=fun {g:aj}=>ue (g:=g) k.kind
 have xT:=fun (g:aj) (b:Nat) (v:Value) (sc:Sc g b v (iS f))=>Fe f w k sc
 have Tj:=fun (h:aj) (g:Fm) (hg:g.ok h) (e:g.pl=f.pl)=>CM g hg (IL e w) (IM e k)
 have I8:=lB w
 obtain ⟨A,c,rfl,_⟩:=id hr
 refine calls [(0,_)] Tryz.func56 rfl Tryz.ntmps56 rfl ⟨rfl,trivial⟩ ?_
 refine WC.sr ?_;refine WL.al (aI rfl) rfl rfl rfl ?_
 rintro _ h1 ⟨b1,rfl,b0,aT,aB⟩
 refine WL.al (au (fun w=>Tryz.zeroValue42 w)) rfl rfl rfl ?_
 rintro _ h2 ⟨b2,rfl,gI,bR,aK⟩
 have ca:=aK.obj aT aQ
 have X2:=aB.trans aK
 refine Go ?_;refine G3 ?_;refine WL.ld rfl (by first | exact ab ca rfl | assumption) rfl rfl rfl ?_
 refine WL.call (vs:=[_]) rfl Tryz.call93 rfl (Fc) rfl rfl rfl ?_
 rintro _ h3 ⟨rfl,aS⟩
 have cE:=aS.obj ca aQ
 have na:=aS.obj bR aQ
 have X3:=X2.trans aS
 refine Gn ?_;refine Gs [(1,_),(2,_),(8,_)] ?_;refine WC.block ?_;refine G2 ?_
 refine aJ 1 2 ?_ TT.mk
 aa (refine ay 2 ?_)
 refine G2 ?_;refine Gs [(1,_),(2,_),(12,_)] ?_
 refine aJ 3 4 ?_ TT.mk
 aa (refine ay 4 ?_)
 refine WC.skip ?_;refine Gn ?_;refine G2 ?_;refine WL.ld rfl (by first | exact ab cE rfl | assumption) rfl rfl rfl ?_
 refine WL.call (vs:=[_]) rfl Tryz.call94 rfl (zd _ (hr.av X3) (by omega)) rfl rfl rfl ?_
 rintro _ h4 ⟨sb,sv,rfl,wh,bh,pH,tD,sS⟩
 have bT:=bh.obj cE aQ
 have qR:=bh.obj na aQ
 have l4:=ak wh.bB
 refine WL.step (aH (vs:=[_]) (cs:=[_]) (fun | [a0]=>[a0] | _=>[]) rfl rfl (by kernel_rfl)) rfl rfl rfl ?_
 refine WL.al (au (fun w=>Tryz.zeroValue161 w)) rfl rfl rfl ?_
 rintro _ h5 ⟨b5,rfl,r6,cd,aO⟩
 refine WL.az (aq Tryz.sizeOf161 rfl rfl rfl (by assumption) rfl (by simp [Value.oneCell'])) rfl rfl ?_
 rintro _ h6 ⟨cj,aP⟩
 have Il:Ext No h4 h6:=aO.trans' aP (fun q hq e=>by omega)
 have dK:=Il.obj bT aQ
 have lS:=Il.obj qR aQ
 have Tk:=wh.ext Il aQ (fun _ _=>aQ)
 have s6:=Il.size
 have Vb:b2 ≠ b5:=by have:=ak qR;omega
 have Vc:b1 ≠ sb:=by have:=ak cE;omega
 have Tl:b2 ≠ sb:=by have:=ak na;omega
 have Tm:b5 ≠ sb:=by omega
 refine Gn ?_;refine Gs [(1,_),(2,_),(4,_)] ?_;refine WC.sr ?_;refine WL.step (aA Tryz.isAgg161 Tryz.sizeOf161 rfl rfl (by exact At.ax cj)) rfl rfl rfl (Go ?_)
 refine WL.ld rfl (by first | exact ab dK rfl | assumption) rfl rfl rfl ?_
 refine WL.call (vs:=[_,_]) rfl Tryz.call95 rfl (xT _ _ _ Tk (fun q hq=>by have:=sS q hq;omega)) rfl rfl rfl ?_
 rintro _ h7 ⟨g,v7,rfl,gP,gO,gA,To,bu⟩
 have Hd:=bu.obj lS Tl
 have He:=bu.obj cj Tm
 refine WL.al (au (fun w=>Tryz.zeroValue42 w)) rfl rfl rfl ?_
 rintro _ h8 ⟨b8,rfl,Ha,bP,bH⟩
 refine WL.az (aq Tryz.sizeOf42 rfl rfl rfl (by assumption) rfl gO.one) rfl rfl ?_
 rintro _ h9 ⟨ck,cl⟩
 have LJ:Ext No h7 h9:=bH.trans' cl (fun q hq e=>by omega)
 have OX:=LJ.obj Hd aQ
 have Hz:=LJ.obj He aQ
 have Tp:=To.ext LJ aQ (fun _ _=>aQ)
 have QS:=gO.av LJ
 refine Gn ?_;refine Gs [(2,_),(4,_),(5,_)] ?_;refine G3 ?_;refine WL.ld rfl (by first | exact ab Hz rfl | assumption) rfl rfl rfl ?_
 refine WL.call (vs:=[_]) rfl Tryz.call96 rfl (wS Tp) rfl rfl rfl ?_
 rintro _ hq ⟨rfl,hz⟩
 replace hz:=hz.symm
 subst hz
 refine Go ?_
 refine bU 27 ?_ TT.mk
 refine WL.step (aA Tryz.isAgg42 Tryz.sizeOf42 rfl rfl (by exact At.ax ck)) rfl rfl rfl ?_
 refine WL.call (vs:=[_]) rfl Tryz.call97 rfl (Tj _ g QS gP) rfl rfl rfl ?_
 rintro _ jf ⟨rfl,cC⟩
 have LK:=cC.obj ck aQ
 have LM:=cC.obj OX aQ
 have uf:=QS.av cC
 refine Gg ?_;refine Go ?_;refine Gs [(2,_),(5,_),(31,_)] ?_
 refine aJ 5 6 ?_ TT.mk
 aa (refine ay 6 ?_)
 refine WC.skip ?_;refine Gn ?_;refine WC.sr ?_;refine WL.step (aA Tryz.isAgg42 Tryz.sizeOf42 rfl rfl (by exact At.ax LK)) rfl rfl rfl ?_
 refine WL.az (aq Tryz.sizeOf42 rfl rfl rfl LM rfl uf.one) rfl rfl ?_
 rintro _ rr ⟨px,cV⟩
 refine Go ?_;refine WC.ret ?_
 repeat' (ae first | refine bq ?_ | refine ba ?_)
 refine di _ _ ⟨⟨_,rfl,bJ Tryz.isAgg42 Tryz.sizeOf42 px rfl⟩,rfl,trivial⟩ ?_
 have X7:Ext (fun q=>q=sb) h6 h7:=bu
 have Ge:Ext No h h6:=(X3.trans bh).trans Il
 have Ax:Ext No h jf:=(Ge.trans' bu (fun q hq e=>by have:=X3.size;omega)).trans (LJ.trans cC)
 have eH:∀ q,g.A q→q ≠ b2:=fun q hq e=>by have:=gA q hq;have:=ak lS;omega
 exact ⟨g,rfl,gP,⟨⟨uf.1.1.ext' cV (fun q _ hq e=>eH q (.inl hq) e),uf.1.2⟩,⟨uf.2.1.ext' cV (fun q _ hq e=>eH q (.inr (.inl hq)) e),uf.2.2⟩,⟨uf.3.1.ext' cV (fun q _ hq e=>eH q (.inr (.inr (.inl hq))) e),uf.3.2⟩,uf.4.ext cV (fun q hq e=>eH q (.inr (.inr (.inr hq))) e)⟩,fun q hq=>by have:=gA q hq;have:=Ge.size;omega,Ax.trans' cV (fun q hq e=>by have:=aB.size;omega)⟩
theorem qm {k:Int} (h:0 < k∧k≤255):By (UInt8.ofNat k.toNat)=.int .u8 k:=NJ (by omega) h.2
theorem CP {h:aj} {b:Nat} {v:Value} {k:Int} {m r:List UInt8} (kf:Fw h b true v (iU k m++r)) (hk:0 < k∧k≤255) (hm:m.length≤60000) (hr:r.length≤100000) :
   ai Tryz.prog 53 ⟨[.pointer (some ⟨b,0,none⟩)]⟩ h fun u h'=>∃ w v',u=.tuple ⟨[.agg ⟨[.int .u8 k,w]⟩,.bool true,In 0]⟩∧Own h' w 5 1 m.length (bK m)∧Fw h' b true v' r∧Ext (fun q=>q=b∨v.ownBlock=some q) h h'∧(∀ q,w.ownBlock=some q→h.size≤q)∧v'.ownBlock=v.ownBlock:=by
 have j3:(be (4+(m.length:Int)) 4).length=4:=bA ..
 have e1:(iU k m++r).drop 1=be (4+(m.length:Int)) 4++(m++r):=by simp [iU]
 have e2:((iU k m++r).drop 1).take 4=be (4+(m.length:Int)) 4:=by rw [e1,List.take_append_of_le_length (by omega),List.take_of_length_le (by omega)]
 have e3:(iU k m++r).drop (1+4)=m++r:=by rw [← List.drop_drop,e1];exact List.drop_left' j3
 have e4:((iU k m++r).drop (1+4)).take (4+m.length - 4)=m:=by rw [e3,Nat.add_sub_cancel_left,List.take_left]
 have e5:(iU k m++r).drop (1+(4+m.length))=r:=by rw [← Nat.add_assoc,← List.drop_drop,e3,List.drop_left]
 have hn:iN (be (4+(m.length:Int)) 4)=((4+m.length:Nat):Int):=by rw [rO (by omega) (by show _ < (4294967296:Int);omega)];omega
 refine (wR kf 1 (4+m.length) rfl (by rw [e2];exact hn) ⟨by omega,by omega⟩ (by rw [List.length_append,iH];omega) (by rw [List.length_append,iH];omega)).mono fun u h' ⟨w,v',hu,ho,QT,hx,hf,hv⟩=>?_
 rw [e4,Nat.add_sub_cancel_left] at ho
 rw [e5] at QT
 refine ⟨w,v',?_,ho,QT,hx,hf,hv⟩
 rw [hu,show sV true (iU k m++r)=UInt8.ofNat k.toNat by simp [sV,iU],qm hk]
theorem Fi {f g:Fm} (e:g.pl=f.pl):g.p=f.p:=by
 simp only [Fm.pl,Prod.mk.injEq] at e
 simp only [Fm.p,e]
theorem Fm.Tq {f:Fm} {q:Nat} (h:f.F q):f.A q:=h.elim (fun h=>.inl h.2) (fun h=>.inr (.inr (.inr h)))
theorem CQ {h0 h:aj} {b:Nat} {s:SP} {r:List UInt8} {O:List (Int × List UInt8)} {n:Nat} (f:Fm) (k:rI h0 h b s true (iU f.kind (iS f)++r) O) (ho:s.ov=false) (w:f.xA) (fm:f.may) (er:Er h) (zf:0 < h0.size) (lm:ei n s) (hn:n < 1000000) (fl:∀ g:Fm,g.pl=f.pl→hJ g)
   (hm:∀ p∈(iV s f.p).2,jK p) (hO:O.length+(iV s f.p).2.length≤10000) (hr:r.length≤100000) :
   ai Tryz.prog 26 ⟨[.pointer (some ⟨b,0,none⟩)]⟩ h fun u h'=>(∃ g:Fm,g.pl=f.pl∧(∀ v∈g.cells,v.oneCell'=true)∧u=.tuple ⟨[.agg ⟨g.cells⟩,.bool true]⟩)∧rI h0 h' b (iV s f.p).1 true r (O++(iV s f.p).2.flatMap eV)∧Ext (tZ h0) h h':=by
 obtain ⟨fb,A,v,w0,M,k,e⟩:=k
 have hs:=k.bB
 rw [ho] at hs
 have Vd:M.length=O.length:=by rw [← e,List.length_map]
 have kr:=fun (g:aj) (hb:g[b]?=some (.cells ⟨mN w0 (.pointer (some ⟨fb,0,none⟩)) (.pointer (some ⟨A.bs,0,none⟩)) (.slice none 0 0) (In 0) true false⟩ 96 (0,0)))=>eC hb
 have uP:=lB w
 have kn:=fun (g:aj) (k:Fw g fb true v (iU f.kind (iS f)++r))=>CP k (oF fm.kind) (by omega) hr
 have lb:=ak hs
 have lf:=ak k.fw.bB
 have x0:=k.x0
 have KE:∀ q,v.ownBlock=some q→q < h.size:=fun q hq=>k.fw.own.lt hq
 have MH:=k.sd.lt
 have ON:v.ownBlock ≠ some b:=bZ k.fw.own hs (by decide)
 have Fj:∀ q,(q=fb∨v.ownBlock=some q)→A.z q:=fun q e=>(k.z q).2 (e.elim (fun e=>.inr (.inl e)) (fun e=>.inr (.inr (.inl e))))
 refine calls [(0,_)] Tryz.func26 rfl Tryz.ntmps26 rfl ⟨rfl,trivial⟩ ?_
 refine WC.sr ?_;refine WL.al (au (fun w=>Tryz.zeroValue42 w)) rfl rfl rfl ?_
 rintro _ h1 ⟨b1,rfl,b0,aT,aB⟩
 have gr:=aB.obj hs aQ
 have k1:=k.av aB
 refine Go ?_;refine G3 ?_;refine WL.call (vs:=[_]) rfl Tryz.call51 rfl (kr _ gr) rfl rfl rfl ?_
 rintro _ hq ⟨rfl,hz⟩
 replace hz:=hz.symm
 subst hz
 refine Go ?_
 refine bU 11 ?_ TT.mk
 refine Gg ?_;refine WL.step (ah rfl) rfl rfl rfl ?_;refine Gg ?_;refine WL.ld rfl (by first | exact ab gr rfl | assumption) rfl rfl rfl (Go ?_)
 refine Gs [(0,_),(2,_),(16,_)] ?_
 refine aJ 1 2 ?_ TT.mk
 aa (refine ay 2 ?_)
 refine WC.skip ?_;refine Gn ?_;refine G2 ?_;refine WL.step (ah rfl) rfl rfl rfl (Go ?_);refine WL.ld rfl (by first | exact ab gr rfl | assumption) rfl rfl rfl ?_
 refine WL.call (vs:=[_]) rfl Tryz.call53 rfl (kn _ k1.fw) rfl rfl rfl ?_
 rintro _ h2 ⟨w2,v2,rfl,dv,Di,aK,fg,GD⟩
 obtain ⟨A2,c2,rfl,_⟩:=id dv.slice
 have qC:=aK.obj gr (fun e=>e.elim k.xx ON)
 have ca:=aK.obj aT (fun e=>by rcases e with e | e;omega;have:=KE _ e;omega)
 refine Go ?_;refine WL.al (au (fun w=>Tryz.zeroValue53 w)) rfl rfl rfl ?_
 rintro _ h3 ⟨b4,rfl,pH,bN,aS⟩
 refine WL.az (aq Tryz.sizeOf53 rfl rfl rfl bN rfl (by simp [Value.oneCell'])) rfl rfl ?_
 rintro _ h4 ⟨gL,bh⟩
 have uC:Ext No h2 h4:=aS.trans' bh (fun q hq e=>by omega)
 have x7:=uC.obj qC aQ
 have Dq:=Di.av uC
 have gk:=dv.ext uC (fun _ _=>aQ)
 have bT:=uC.obj ca aQ
 have X4:Ext (fun q=>q=fb∨v.ownBlock=some q) h h4:=((aB.mono fun _ _ e=>e.elim).trans aK).trans (uC.mono fun _ _ e=>e.elim)
 have l4:=X4.size
 have l1:=aB.size
 have SH:=ak bT
 have Tr:oX h0 h4 { A with z:=fun q=>A.z q∨q=b1 } s:=k.se.Is X4 (fun q e=>k.Le q (Fj q e)) (fun q hq=>hq.elim (fun z=>⟨.inl z,by obtain ⟨_,_,ks,_⟩:=k.se;have:=ks.zz.s q z;omega⟩) (fun z=>⟨.inr (by omega),by omega⟩)) x0
 have zC:=k.fw.bB
 have OY:=k.sd.ext X4 (fun q hq e=>e.elim (fun e=>(k.sd.off zC (by decide) (by decide)).1 (e▸hq)) (fun e=>by obtain ⟨_,a1⟩:=bV k.sd.row hq;obtain ⟨_,a2⟩:=bV k.fw.own e;rw [a1] at a2;simp at a2)) (fun y hy q hq e=>e.elim (fun e=>(k.sd.off zC (by decide) (by decide)).2 y hy (e▸hq)) (k.nv y hy q hq))
 refine Go ?_;refine Gs [(0,_),(2,_),(4,_),(5,_),(6,_)] ?_;refine WC.seq ?_;refine WC.block ?_;refine G2 ?_
 refine aJ 3 4 ?_ TT.mk
 aa (refine ay 4 ?_)
 refine G2 ?_;refine Gs [(0,_),(2,_),(4,_),(34,_)] ?_
 refine aJ 5 6 ?_ TT.mk
 aa (refine ay 6 ?_)
 refine G2 ?_;refine WL.step (ah rfl) rfl rfl rfl (Go ?_);refine WL.ld rfl (by first | exact ab x7 rfl | assumption) rfl rfl rfl (Go ?_)
 refine Gs [(0,_),(2,_),(4,_),(38,_)] ?_
 refine aJ 7 8 ?_ TT.mk
 aa (refine ay 8 ?_)
 refine WC.skip ?_;refine Gn ?_;refine WC.sr ?_;refine WL.step (aA Tryz.isAgg53 Tryz.sizeOf53 rfl rfl (by exact At.ax gL)) rfl rfl rfl ?_
 refine WL.call (vs:=[_]) rfl Tryz.call56 rfl (ze f w fm gk.rd) rfl rfl rfl ?_
 rintro _ h5 ⟨g,rfl,gp,gO,gA,aO⟩
 refine Go ?_;refine WL.al (au (fun w=>Tryz.zeroValue42 w)) rfl rfl rfl ?_
 rintro _ h6 ⟨b7,rfl,zu,cq,aP⟩
 refine WL.az (aq Tryz.sizeOf42 rfl rfl rfl cq rfl gO.one) rfl rfl ?_
 rintro _ h7 ⟨ug,bu⟩
 have QU:Ext No h5 h7:=aP.trans' bu (fun q hq e=>by omega)
 have ow:Ext No h4 h7:=aO.trans QU
 have Dr:=ow.obj x7 aQ
 have Ts:=gO.av QU
 have l5:=aO.size
 have l7:=ow.size
 have Tt:Er h7:=(er.ext X4 (fun e=>by have:=k.lo 0 (Fj 0 e);omega)).av ow
 refine Go ?_;refine Gs [(0,_),(2,_),(6,_),(7,_)] ?_;refine G3 ?_
 refine aJ 9 10 ?_ TT.mk
 aa (refine ay 10 ?_)
 refine WC.skip ?_;refine Gn ?_;refine WC.seq ?_;refine WC.cg (fun h'=>(∃ w,h'[b]?=some (.cells ⟨mN w (.pointer (some ⟨fb,0,none⟩)) (.pointer (some ⟨A.bs,0,none⟩)) (.slice none 0 0) (In 0) true false⟩ 96 (0,0)))∧h'[b7]?=some (.cells ⟨g.cells⟩ 42 (0,0))) 8 8 rfl dB ?_
 refine WH.tk 0 rfl (fun hq hC=>an rfl) rfl rfl rfl ?_ (hC:=(by first | exact ⟨⟨_,Dr⟩,ug⟩ | assumption))
 refine WH.tk 1 rfl (fun hq hC=>an rfl) rfl rfl rfl ?_ (hC:=(by first | exact ⟨⟨_,Dr⟩,ug⟩ | assumption))
 refine WH.tk 2 rfl (fun hq hC=>ah rfl) rfl rfl rfl ?_ (hC:=(by first | exact ⟨⟨_,Dr⟩,ug⟩ | assumption))
 refine WH.tk 3 rfl (fun hq hC=>ag rfl Tryz.underlying96 rfl Tryz.sizeOf90) rfl rfl rfl ?_ (hC:=(by first | exact ⟨⟨_,Dr⟩,ug⟩ | assumption))
 refine WH.tk 4 rfl (fun hq hC=>aC Tryz.isAgg90 rfl ((by obtain ⟨⟨w,e⟩,_⟩:=hC;exact ab e rfl))) rfl rfl rfl ?_ (hC:=(by first | exact ⟨⟨_,Dr⟩,ug⟩ | assumption))
 refine WH.tk 5 rfl (fun hq hC=>aA Tryz.isAgg42 Tryz.sizeOf42 rfl rfl (by exact At.ax hC.2)) rfl rfl rfl ?_ (hC:=(by first | exact ⟨⟨_,Dr⟩,ug⟩ | assumption))
 refine WH.one 6 (by kernel_rfl) ?_
 refine aE.call (vs:=[_,_]) rfl rfl Tryz.call58 rfl (OM Tr lm hn Tt zf ow (by omega) g Ts (fun q hq=>gA q (Fm.Tq hq)) (fl g gp)) rfl rfl rfl ?_ (fun _=>by kernel_rfl)
 rintro v8 h8 ⟨⟨B,Ou,hB⟩,OZ,bH⟩
 have xw:=bH.obj Dr (fun e=>by have:=e.2 _ _ Dr;revert this;decide)
 have ky:=bH.obj ug (fun e=>by have:=e.2 _ _ ug;revert this;decide)
 refine ⟨fun _=>⟨⟨_,xw⟩,ky⟩,?_⟩
 rw [Fi gp] at hB OZ
 have l8:=bH.size
 have MI:=(OY.av ow).ext bH (fun q hq e=>wa (OY.av ow).row (by decide) q hq e) (fun y hy q hq e=>wa ((OY.av ow).xv y hy) (by decide) q hq e)
 have Sg:B.length=(iV s f.p).2.length:=by rw [← hB,List.length_map]
 refine WH.one 7 (by kernel_rfl) ?_
 refine aE.call (vs:=[_,_]) rfl rfl Tryz.call57 rfl (Gi B Ou.own.rd xw MI (by omega) (fun q hq=>⟨by have:=Ou.vf q hq;omega,fun e=>by have:=Ou.vf q hq;have:=MH.1 q e;omega⟩) (fun y hy=>(Ou.ok y hy).one) (fun y hy g x=>xu y ((Ou.ok y hy).ext x (fun q hq e=>by have:=Ou.bf y hy q hq;exact e.elim (fun e=>by omega) (fun e=>by have:=MH.1 q e;omega))) (hm _ (hB▸List.mem_map_of_mem hy)))) rfl rfl rfl ?_ (fun _=>by kernel_rfl)
 rintro _ h9 ⟨w9,M9,Tu,vX,MJ,cl,xG,O0⟩
 have LN:=cl.obj ky (fun e=>e.elim (fun e=>by omega) (fun e=>by have:=MH.1 _ e;omega))
 refine ⟨fun _=>⟨⟨_,vX⟩,LN⟩,?_⟩
 have Tv:=vX
 have Tw:∀ q,(q=b∨w0.ownBlock=some q)→({ A with z:=fun q=>A.z q∨q=b1 }:Ad).z q∧Ir h8 q:=fun q e=>⟨.inl ((k.z q).2 (e.elim .inl (fun e=>.inr (.inr (.inr e))))),e.elim (fun e=>by subst e;exact ⟨_,_,xw,by decide,by decide,by decide,by decide⟩) (fun e=>rJ MI.row (by decide) q e)⟩
 have QV:oX h0 h9 { A with z:=fun q=>(A.z q∨q=b1)∨w9.ownBlock=some q } (iV s f.p).1:=OZ.Is cl Tw (fun q hq=>hq.elim (fun z=>⟨.inl z,by obtain ⟨_,_,ks,_⟩:=OZ;have:=ks.zz.s q z;have:=cl.size;omega⟩) (fun z=>⟨(xG q z).imp (fun y=>.inl ((k.z q).2 (.inr (.inr (.inr y))))) id,MJ.lt.1 q z⟩)) (by omega)
 have Iq:=(Dq.av ow).ext bH (fun e=>by have:=e.2 _ _ (Dq.av ow).bB;revert this;decide) (fun q hq e=>wa (Dq.av ow).own (by decide) q hq e)
 have MA:=Iq.ext cl (fun e=>e.elim (fun e=>k.xx e.symm) (fun e=>(MI.off Iq.bB (by decide) (by decide)).1 e)) (fun q hq e=>e.elim (fun e=>bZ Iq.own xw (by decide) (e▸hq)) (fun e=>by obtain ⟨_,a1⟩:=bV MI.row e;obtain ⟨_,a2⟩:=bV Iq.own hq;rw [a1] at a2;simp at a2))
 refine WH.done (by kernel_rfl) ?_
 refine Gn ?_;refine Gs [(0,_),(2,_),(7,_)] ?_;refine G2 ?_;refine WL.step (ah rfl) rfl rfl rfl (Go ?_);refine WL.ld rfl (by first | exact ab vX rfl | assumption) rfl rfl rfl ?_
 refine WL.call (vs:=[_]) rfl Tryz.call59 rfl (Hq QV.bB) rfl rfl rfl ?_
 rintro _ hq ⟨rfl,hz⟩
 replace hz:=hz.symm
 subst hz
 refine WL.step (ah rfl) rfl rfl rfl (Go ?_);refine WL.az (aD Tryz.sizeOf4 rfl rfl vX (Nat.le_of_ble_eq_true rfl) rfl rfl) rfl rfl ?_
 rintro _ jf ⟨O1,cC⟩
 have LO:=cC.obj LN (fun e=>by omega)
 have oJ:=cC.obj (cl.obj (bH.obj (ow.obj bT aQ) (fun e=>by have:=e.2 _ _ (ow.obj bT aQ);revert this;decide)) (fun e=>e.elim (fun e=>by omega) (fun e=>by have:=MH.1 _ e;omega))) (fun e=>by omega)
 refine Gn ?_;refine Gs [(2,_),(7,_)] ?_;refine WC.sr ?_;refine WL.step (aA Tryz.isAgg42 Tryz.sizeOf42 rfl rfl (by exact At.ax LO)) rfl rfl rfl ?_
 refine WL.az (aq Tryz.sizeOf42 rfl rfl rfl oJ rfl gO.one) rfl rfl ?_
 rintro _ rr ⟨px,cV⟩
 have l9:=cl.size
 have Ve:=cC.size
 have Vf:=cV.size
 have bl:=k.lo b ((k.z b).2 (.inl rfl))
 have Tx:¬ b=b1:=fun e=>by omega
 have O3:=MA.ext cC (fun e=>k.xx e.symm) (fun q hq e=>bZ MA.own vX (by decide) (e▸hq))
 have O5:=O3.ext cV (fun e=>by omega) (fun q hq e=>by rw [GD] at hq;have:=KE q hq;omega)
 have IP:=MJ.ext cC (fun q hq e=>(MJ.off vX (by decide) (by decide)).1 (e▸hq)) (fun y hy q hq e=>(MJ.off vX (by decide) (by decide)).2 y hy (e▸hq))
 have LP:=IP.ext cV (fun q hq e=>(IP.off oJ (by decide) (by decide)).1 (e▸hq)) (fun y hy q hq e=>(IP.off oJ (by decide) (by decide)).2 y hy (e▸hq))
 have O6:=QV.y9 cC (fun q e=>by subst e;exact ⟨.inl (.inl ((k.z _).2 (.inl rfl))),_,_,vX,by decide,by decide,by decide,by decide⟩)
 have O7:oX h0 rr { A with z:=fun q=>q=b∨q=fb∨v2.ownBlock=some q∨w9.ownBlock=some q } (iV s f.p).1:=O6.Is cV (fun q e=>by subst e;exact ⟨.inl (.inr rfl),_,_,oJ,by decide,by decide,by decide,by decide⟩) (fun q hq=>by
  rcases hq with hq | hq | hq | hq
  · exact ⟨.inl (.inl (.inl ((k.z q).2 (.inl hq)))),by omega⟩
  · exact ⟨.inl (.inl (.inl ((k.z q).2 (.inr (.inl hq))))),by omega⟩
  · rw [GD] at hq;exact ⟨.inl (.inl (.inl ((k.z q).2 (.inr (.inr (.inl hq)))))),by have:=KE q hq;omega⟩
  · exact ⟨.inl (.inr hq),by have:=LP.lt.1 q hq;omega⟩) (by omega)
 have Ip:Ext (tZ h0) h rr:=((((X4.mono fun q _ e=>k.lo q (Fj q e)).trans (ow.mono fun _ _ e=>e.elim)).trans (bH.mono fun _ _ e=>e.1)).trans (cl.mono fun q _ e=>k.lo q ((k.z q).2 (e.elim .inl fun e=>.inr (.inr (.inr e)))))).trans ((cC.mono fun _ _ e=>by subst e;exact bl).trans (cV.mono fun _ _ e=>by subst e;show h0.size≤_;omega))
 refine Go ?_;refine WC.ret ?_
 repeat' (ae first | refine bq ?_ | refine ba ?_)
 refine di _ _ ⟨⟨_,rfl,bJ Tryz.isAgg42 Tryz.sizeOf42 (by assumption) rfl⟩,rfl,trivial⟩ ?_
 exact ⟨⟨g,gp,gO.one,rfl⟩,⟨fb,{ A with z:=fun q=>q=b∨q=fb∨v2.ownBlock=some q∨w9.ownBlock=some q },v2,w9,M9,⟨cV.obj O1 Tx,O5,O7,LP,fun x hx q hq e=>by rw [GD] at e;exact (O0 x hx).elim (fun y=>k.nv x y q hq e) (fun y=>by have:=y q hq;have:=KE q e;omega),fun q=>Iff.rfl,by omega⟩,by rw [Tu,e,← hB,List.flatMap_map]⟩,Ip⟩
theorem uh {h:aj} {A:Option Addr} {n c:Nat} {xs:List Value} (ho:Own h (.slice A n c) 53 2 n xs) (hn:0 < n) (iE:∀ v∈xs,v.oneCell'=true) (hm:n≤1000000) :
   ai Tryz.prog 60 ⟨[.slice A n c,In 0,In 1]⟩ h fun u h'=>Own h' u 53 2 (n - 1) (xs.drop 2)∧Ext (fun b=>(Value.slice A n c).ownBlock=some b) h h'∧u.ownBlock=(Value.slice A n c).ownBlock:=by
 obtain ⟨b,c',cs,hv,hb,G9,rZ,pD,Dg⟩:=ho.block (by omega)
 simp only [Value.slice.injEq] at hv
 obtain ⟨rfl,_,rfl⟩:=hv
 have O8:=rZ
 unfold maxLen at rZ
 have xW:xs.length=n * 2:=ho.1
 have xT:=ho.rd.drop (l:=1) (by omega)
 refine calls [(0,_),(1,_),(2,_)] Tryz.func60 rfl Tryz.ntmps60 rfl ⟨rfl,rfl,rfl,trivial⟩ ?_
 refine G2 ?_;refine G2 ?_;refine WL.step (kT Tryz.underlying94 Tryz.sizeOf53 rfl rfl rfl rfl (by omega)) rfl rfl rfl ?_
 refine Gn ?_;refine Gs [(0,_),(1,_),(2,_)] ?_;refine G3 ?_
 refine aJ 1 2 ?_ TT.mk
 aa (refine ay 2 ?_)
 refine WC.skip ?_;refine Gn ?_;refine G2 ?_;refine Gs [(0,_),(1,_),(2,_),(7,_)] ?_;refine WC.seq ?_;refine WC.jO 6 dB (by kernel_rfl) ?_
 show WS _ _ _ [_,_,_,_,_,_] _ _ _
 refine WS.step (an rfl) rfl rfl rfl ?_;refine WS.step (an rfl) rfl rfl rfl ?_;refine WS.step (j1 Tryz.underlying94 Tryz.sizeOf53 rfl rfl (by omega)) rfl rfl rfl ?_
 refine WS.step (an rfl) rfl rfl rfl ?_;refine WS.step (an rfl) rfl rfl rfl ?_;refine WS.step (so Tryz.underlying94 Tryz.sizeOf53 rfl rfl (by omega)) rfl rfl rfl ?_
 refine WS.nil ?_
 show WL _ _ _ [_,_] _ _ _
 refine WL.al (mC (sz:=2) rfl Tryz.underlying94 (show Tryz.prog.info? 53=some Tryz.t53 by kernel_rfl) rfl rfl rfl hb (by omega) xT (fun v hv=>iE v (List.mem_of_mem_drop hv)) (by omega)) rfl rfl rfl ?_
 rintro _ h2 ⟨rfl,bR,aK⟩
 simp only [Int.toNat_zero,List.take_zero,List.nil_append,Nat.zero_add,Nat.zero_mul,Nat.one_mul] at bR
 have e5:(List.drop 2 xs).length=(n - 1) * 2:=by rw [List.length_drop,xW];omega
 have e6:(List.drop 2 xs++List.drop ((n - 1) * 2) cs).length=c * 2:=by rw [List.length_append,e5,List.length_drop,pD];omega
 refine WL.step (aR rfl) rfl rfl rfl ?_;refine WL.nil ?_;refine Gn ?_;refine Gs [(0,_),(7,_)] ?_;refine G2 ?_;refine WL.step (dk Tryz.underlying94 Tryz.sizeOf53 rfl rfl rfl (by omega)) rfl rfl rfl ?_
 refine WL.az (pF rfl Tryz.underlying94 (fun w=>Tryz.zeroValue53 w) rfl (by first | rfl | assumption | exact (if_neg (by omega)).trans (congrArg some (Addr.add_lit _ _ _))) (by omega) bR (by show 0+_ * 2+_ * 2≤_;simp only [List.length_append,List.length_drop,xW,pD,Int.toNat_zero];omega) (by simp [Value.cells,Value.oneCell'])) rfl rfl ?_
 rintro _ h3 ⟨Rv,bC,x8,J1,aS⟩
 refine Gn ?_;refine Gs [(0,_)] ?_;refine G2 ?_;refine Gt ?_
 rw [e6] at x8
 refine ⟨?_,(aK.trans aS).mono (fun q _ e=>by simp [e,Value.ownBlock]),rfl⟩
 simp only [Int.toNat_zero,Nat.zero_add] at J1 ⊢
 exact Own.ax (c:=c) bC (by omega) O8 (by rw [x8]) (by rw [J1 _ (by show _≤(n - 1) * 2;omega),List.take_append_of_le_length (by omega),List.take_of_length_le (by omega)])
theorem lC {h:aj} {b fb n:Nat} {w s p i v:Value} {k:Int} {bg ov:Bool} {xs:List Value} (hb:h[b]?=some (.cells ⟨mN w (.pointer (some ⟨fb,0,none⟩)) s p i bg ov⟩ 96 (0,0))) (ho:Own h w 53 2 (n+1) (.int .u8 k :: v :: xs)) (hv:v.oneCell'=true) (iE:∀ v∈xs,v.oneCell'=true) (hm:n≤900000) :
   ai Tryz.prog 27 ⟨[.pointer (some ⟨b,0,none⟩)]⟩ h fun u h'=>u=.tuple ⟨[.agg ⟨[.int .u8 k,v]⟩,.bool true]⟩∧∃ w',h'[b]?=some (.cells ⟨mN w' (.pointer (some ⟨fb,0,none⟩)) s p i bg ov⟩ 96 (0,0))∧Own h' w' 53 2 n xs∧Ext (fun q=>q=b∨w.ownBlock=some q) h h'∧w'.ownBlock=w.ownBlock:=by
 have kr:=fun (g:aj) (hb:g[b]?=some (.cells ⟨mN w (.pointer (some ⟨fb,0,none⟩)) s p i bg ov⟩ 96 (0,0)))=>eC hb
 obtain ⟨A,c,rfl,_⟩:=id ho.slice
 have nW:(Value.slice A (n+1) c).ownBlock ≠ some b:=bZ ho hb (by decide)
 have eH:∀ q,(Value.slice A (n+1) c).ownBlock=some q→q < h.size:=fun q hq=>ho.lt hq
 have lb:=ak hb
 have CR:∀ x∈.int .u8 k :: v :: xs,x.oneCell'=true:=fun x hx=>by
   simp only [List.mem_cons] at hx
   rcases hx with rfl | rfl | hx
   · rfl
   · exact hv
   · exact iE x hx
 refine calls [(0,_)] Tryz.func27 rfl Tryz.ntmps27 rfl ⟨rfl,trivial⟩ ?_
 refine WC.sr ?_;refine WL.al (au (fun w=>Tryz.zeroValue53 w)) rfl rfl rfl ?_
 rintro _ h1 ⟨b1,rfl,b0,aT,aB⟩
 have gr:=aB.obj hb aQ
 have kE:=ho.ext aB (fun _ _=>aQ)
 refine Go ?_;refine G3 ?_;refine WL.call (vs:=[_]) rfl Tryz.call51 rfl (kr _ gr) rfl rfl rfl ?_
 rintro _ hq ⟨rfl,hz⟩
 replace hz:=hz.symm
 subst hz
 refine Go ?_
 refine bU 8 ?_ TT.mk
 refine Gg ?_;refine WL.step (ah rfl) rfl rfl rfl ?_;refine Gg ?_;refine WL.ld rfl (by first | exact ab gr rfl | assumption) rfl rfl rfl ?_
 refine Gg ?_;refine Go ?_;refine Gs [(0,_),(2,_),(15,_)] ?_
 refine aJ 1 2 ?_ TT.mk
 aa (refine ay 2 ?_)
 refine WC.skip ?_;refine Gn ?_;refine G2 ?_;refine WL.step (ah rfl) rfl rfl rfl (Go ?_);refine WL.ld rfl (by first | exact ab gr rfl | assumption) rfl rfl rfl ?_
 obtain ⟨bb,o,rfl,_,cX⟩:=Rd.at_ kE.rd (by omega)
 refine WL.step (aG Tryz.underlying94 Tryz.sizeOf53 rfl rfl rfl (by first | omega | (simp <;> omega)) (by first | rfl | assumption) (k:=0)) rfl rfl rfl ?_
 refine WL.step (aA Tryz.isAgg53 Tryz.sizeOf53 rfl rfl (by exact At.pre (xs:=[_,_]) (ys:=_) (by simpa using cX))) rfl rfl rfl ?_
 refine WL.al (au (fun w=>Tryz.zeroValue53 w)) rfl rfl rfl ?_
 rintro _ h2 ⟨b2,rfl,gI,bR,aK⟩
 refine WL.az (aq Tryz.sizeOf53 rfl rfl rfl bR rfl (fun x hx=>CR x (by simp only [List.mem_cons,List.not_mem_nil,or_false] at hx ⊢;rcases hx with rfl | rfl <;> simp))) rfl rfl ?_
 rintro _ h3 ⟨bC,aS⟩
 have X3:Ext No h h3:=(aB.trans aK).trans' aS (fun q hq e=>by have:=aB.size;omega)
 have MK:=X3.obj hb aQ
 have ee:=ho.ext X3 (fun _ _=>aQ)
 have cE:=aS.obj (aK.obj aT aQ) (fun e=>by have:=ak aT;omega)
 refine Gn ?_;refine Gs [(0,_),(2,_),(4,_)] ?_;refine G2 ?_;refine WL.step (ah rfl) rfl rfl rfl (Go ?_);refine Ld ?_;refine WL.call (vs:=[_,_,_]) rfl Tryz.call60 rfl (uh ee (by omega) CR (by omega)) rfl rfl rfl ?_
 rintro v4 h4 ⟨gk,bh,tD⟩
 obtain ⟨A4,c4,rfl,_⟩:=id gk.slice
 have x7:=bh.obj MK nW
 have bT:=bh.obj cE (fun e=>by have:=eH _ e;omega)
 have qR:=bh.obj bC (fun e=>by have:=eH _ e;have:=aB.size;omega)
 refine WL.step (ah rfl) rfl rfl rfl (Go ?_);refine WL.az (aD Tryz.sizeOf94 rfl rfl x7 (Nat.le_of_ble_eq_true rfl) rfl rfl) rfl rfl ?_
 rintro _ h5 ⟨cd,aO⟩
 have X5:Ext (fun q=>q=b∨(Value.slice (some ⟨bb,o,none⟩) (n+1) c).ownBlock=some q) h h5:=(X3.mono fun _ _ e=>e.elim).trans ((bh.mono fun _ _ e=>.inr e).trans (aO.mono fun _ _ e=>.inl e))
 have eX:=gk.ext aO (fun q hq e=>bZ gk x7 (by decide) (e▸hq))
 have du:=aO.obj bT (fun e=>by omega)
 have Pa:=aO.obj qR (fun e=>by have:=aB.size;omega)
 refine Gn ?_;refine Gs [(2,_),(4,_)] ?_;refine WC.sr ?_;refine WL.step (aA Tryz.isAgg53 Tryz.sizeOf53 rfl rfl (by exact At.ax Pa)) rfl rfl rfl ?_
 refine WL.az (aq Tryz.sizeOf53 rfl rfl rfl du rfl (fun x hx=>CR x (by simp only [List.mem_cons,List.not_mem_nil,or_false] at hx ⊢;rcases hx with rfl | rfl <;> simp))) rfl rfl ?_
 rintro _ h6 ⟨cj,aP⟩
 refine Go ?_;refine WC.ret ?_
 repeat' (ae first | refine bq ?_ | refine ba ?_)
 refine di _ _ ⟨⟨_,rfl,bJ Tryz.isAgg53 Tryz.sizeOf53 (by assumption) rfl⟩,rfl,trivial⟩ ?_
 exact ⟨rfl,_,aP.obj cd (fun e=>by omega),eX.ext aP (fun q hq e=>by rw [tD] at hq;have:=eH q hq;omega),X5.trans' aP (fun q hq e=>by omega),tD⟩
theorem mv {h:aj} {b fb c:Nat} {A:Option Addr} {s p i:Value} {bg ov:Bool} (hb:h[b]?=some (.cells ⟨mN (.slice A 0 c) (.pointer (some ⟨fb,0,none⟩)) s p i bg ov⟩ 96 (0,0))) :
   ai Tryz.prog 27 ⟨[.pointer (some ⟨b,0,none⟩)]⟩ h fun u h'=>u=.tuple ⟨[.agg ⟨[.int .u8 0,.slice none 0 0]⟩,.bool false]⟩∧Ext No h h':=by
 have kr:=fun (g:aj) (hb:g[b]?=some (.cells ⟨mN (.slice A 0 c) (.pointer (some ⟨fb,0,none⟩)) s p i bg ov⟩ 96 (0,0)))=>eC hb
 refine calls [(0,_)] Tryz.func27 rfl Tryz.ntmps27 rfl ⟨rfl,trivial⟩ ?_
 refine WC.sr ?_;refine WL.al (au (fun w=>Tryz.zeroValue53 w)) rfl rfl rfl ?_
 rintro _ h1 ⟨b1,rfl,b0,aT,aB⟩
 have gr:=aB.obj hb aQ
 refine Go ?_;refine G3 ?_;refine WL.call (vs:=[_]) rfl Tryz.call51 rfl (kr _ gr) rfl rfl rfl ?_
 rintro _ hq ⟨rfl,hz⟩
 replace hz:=hz.symm
 subst hz
 refine Go ?_
 refine bU 8 ?_ TT.mk
 refine Gg ?_;refine WL.step (ah rfl) rfl rfl rfl ?_;refine Gg ?_;refine WL.ld rfl (by first | exact ab gr rfl | assumption) rfl rfl rfl ?_
 refine Gg ?_;refine Go ?_;refine Gs [(0,_),(2,_),(15,_)] ?_
 refine aJ 1 2 ?_ TT.mk
 aa (refine ay 1 ?_)
 refine WC.sr ?_;refine WL.step (aH (vs:=[]) (cs:=[_,_]) (fun | []=>[(.int .u8 0),(.slice none 0 0)] | _=>[]) rfl rfl (by kernel_rfl)) rfl rfl rfl ?_
 refine WL.az (aq Tryz.sizeOf53 rfl rfl rfl aT rfl (by simp [Value.oneCell'])) rfl rfl ?_
 rintro _ h2 ⟨bR,aK⟩
 refine Go ?_;refine WC.ret ?_
 repeat' (ae first | refine bq ?_ | refine ba ?_)
 refine di _ _ ⟨⟨_,rfl,bJ Tryz.isAgg53 Tryz.sizeOf53 (by assumption) rfl⟩,rfl,trivial⟩ ?_
 exact ⟨rfl,aB.trans' aK (fun q hq e=>by omega)⟩
section
variable {h0 h h':aj} {b:Nat} {s:SP} {bg:Bool} {l:List UInt8} {O:List (Int × List UInt8)}
theorem zg (k:rI h0 h b s bg l []):ai Tryz.prog 27 ⟨[.pointer (some ⟨b,0,none⟩)]⟩ h fun u h'=>u=.tuple ⟨[.agg ⟨[.int .u8 0,.slice none 0 0]⟩,.bool false]⟩∧rI h0 h' b s bg l []∧Ext No h h':=by
 have k0:=k
 obtain ⟨fb,A,v,w,M,k,e⟩:=k
 obtain rfl:M=[]:=List.map_eq_nil_iff.1 e
 obtain ⟨B,c,rfl,_⟩:=id k.sd.row.slice
 exact (mv k.bB).mono fun u h' ⟨e,x⟩=>⟨e,k0.av x,x⟩
theorem take_one {y:Int × List UInt8} (k:rI h0 h b s bg l (y :: O)) (hO:O.length≤100000):ai Tryz.prog 27 ⟨[.pointer (some ⟨b,0,none⟩)]⟩ h fun u h'=>∃ m,u=.tuple ⟨[.agg ⟨[.int .u8 y.1,m]⟩,.bool true]⟩∧Own h' m 5 1 y.2.length (bK y.2)∧rI h0 h' b s bg l O∧Ext (tZ h0) h h':=by
 obtain ⟨fb,A,v,w,M,k,e⟩:=k
 obtain ⟨z,M,rfl⟩:∃ z N,M=z :: N:=by
   cases M with
   | nil=>simp at e
   | cons z N=>exact ⟨z,N,rfl⟩
 simp only [List.map_cons,List.cons.injEq] at e
 obtain ⟨rfl,rfl⟩:=e
 obtain ⟨zk,zv,zl⟩:=z
 have iE:=k.sd.one
 have LQ:=k.sd.row
 simp only [List.flatMap_cons,vW,List.length_cons,List.cons_append,List.nil_append] at LQ iE
 have QW:=k.sd.xv (zk,zv,zl) (by simp)
 have lb:=ak k.bB
 refine (lC k.bB LQ (iG QW) (fun x hx=>iE x (by simp only [List.mem_cons];exact .inr (.inr hx))) (by simp only [List.length_map] at hO;omega)).mono fun u h' ⟨hu,w',zr,JG,hx,hw⟩=>?_
 have QX:∀ q,(q=b∨w.ownBlock=some q)→A.z q:=fun q e=>(k.z q).2 (e.elim .inl fun e=>.inr (.inr (.inr e)))
 have off:∀ x∈((zk,zv,zl):nd) :: M,∀ q,x.2.1.ownBlock=some q→¬ (q=b∨w.ownBlock=some q):=fun x hx q hq e=>e.elim (fun e=>(k.sd.off k.bB (by decide) (by decide)).2 x hx (e▸hq)) (fun e=>by obtain ⟨_,a1⟩:=bV k.sd.row e;obtain ⟨_,a2⟩:=bV (k.sd.xv x hx) hq;rw [a1] at a2;simp at a2)
 have wQ:=k.fw.ext hx (fun e=>e.elim (fun e=>k.xx e.symm) (fun e=>(k.sd.off k.fw.bB (by decide) (by decide)).1 e)) (fun q hq e=>e.elim (fun e=>bZ k.fw.own k.bB (by decide) (e▸hq)) (fun e=>by obtain ⟨_,a1⟩:=bV k.sd.row e;obtain ⟨_,a2⟩:=bV k.fw.own hq;rw [a1] at a2;simp at a2))
 refine ⟨zv,hu,QW.ext hx (off _ (by simp)),⟨fb,A,v,w',M,⟨zr,wQ,k.se.y9 hx (fun q e=>k.Le q (QX q e)),⟨JG,fun x AW=>(k.sd.xv x (by simp [AW])).ext hx (off x (by simp [AW]))⟩,fun x AW=>k.nv x (by simp [AW]),fun q=>by rw [hw];exact k.z q,by have:=hx.size;have:=k.x0;omega⟩,rfl⟩,hx.mono fun q _ e=>k.lo q (QX q e)⟩
end
theorem oX.z0 {h0 h:aj} {A:Ad} (k:oX h0 h A rH) {z':Nat→Prop} (hz:∀ q,z' q→h0.size≤q∧q < h.size):oX h0 h { A with z:=z' } rH:=by
 obtain ⟨L,P,k,e1,e2,e3,e4⟩:=k
 obtain rfl:L=[]:=List.map_eq_nil_iff.1 e1
 obtain rfl:P=[]:=List.map_eq_nil_iff.1 e2
 exact ⟨[],[],⟨k.se,k.jA,k.eJ,k.xb,k.r9,k.yz,⟨(fun _ h=>nomatch h),(fun _ h=>nomatch h),fun q hq=>(hz q hq).2⟩⟩,rfl,rfl,e3,fun q hq=>(hz q hq).1⟩
def oK (h0 h:aj) (b:Nat) (l:List UInt8):Prop:=∃ fb A v,Sq h0 h b fb A rH false l v (.slice none 0 0) []
theorem LR {h0 h:aj} {be me:Nat} (hb:h[be]?=some (.cells ⟨[.map (some me),In 0]⟩ 104 (0,0))) (hm:Mp .string St h me ([]:List (List UInt8 × Value))) (x:Ext No h0 h) (g1:h0.size≤be) :
   ai Tryz.prog 23 ⟨[.pointer (some ⟨be,0,none⟩),.slice none 0 0,In 0]⟩ h fun u h'=>∃ b,u=.pointer (some ⟨b,0,none⟩)∧oK h0 h' b []∧Ext No h h':=by
 have kn:=fun (g:aj) (y:Ext No h g)=>K9 (h0:=h0) (y.obj hb aQ) (hm.ext y aQ) (x.trans y) g1
 have x0:=x.size
 refine calls [(0,_),(1,_),(2,_)] Tryz.func23 rfl Tryz.ntmps23 rfl ⟨rfl,rfl,rfl,trivial⟩ ?_
 refine G2 ?_;refine WC.sr ?_;refine WL.call (vs:=[_,_,_]) rfl Tryz.call48 rfl (Ay) rfl rfl rfl ?_
 rintro _ h1 ⟨fb,rfl,kf,Nw,aB⟩
 refine Go ?_;refine Gs [(0,_),(1,_),(2,_),(7,_),(8,_)] ?_;refine G3 ?_
 refine aJ 1 2 ?_ TT.mk
 aa (refine ay 2 ?_)
 refine WC.skip ?_;refine Gn ?_;refine G2 ?_;refine WL.call (vs:=[_]) rfl Tryz.call49 rfl (kn _ aB) rfl rfl rfl ?_
 rintro _ h2 ⟨A,rfl,Ty,aK⟩
 refine Go ?_;refine WL.call (vs:=[_]) rfl Tryz.call50 rfl (n7) rfl rfl rfl ?_
 rintro _ hz ⟨rfl,_⟩
 subst hz
 refine Go ?_;refine WL.step (aH (vs:=[_,_,_,_]) (cs:=[_,_,_,_,_,_,_]) (fun | [a1,a2,a3,a4]=>[(.slice none 0 0),a1,a2,a3,a4,(.bool false),(.bool false)] | _=>[]) rfl rfl (by kernel_rfl)) rfl rfl rfl ?_
 refine WL.al (aI rfl) rfl rfl rfl ?_
 rintro _ h3 ⟨b,rfl,gN,bC,aS⟩
 refine Go ?_;refine Gs [(6,_)] ?_;refine Gt ?_
 have l1:=aB.size
 have l2:=aK.size
 have l3:=ak bC
 have QY:=(kf.av aK).av aS
 have l4:=ak QY.bB
 have Tz:oX h0 h3 { A with z:=fun q=>q=b∨q=fb∨(Value.slice none 0 0).ownBlock=some q∨(Value.slice none 0 0).ownBlock=some q } rH:=(Ty.av aS).z0 (fun q hq=>by rcases hq with e | e | e | e;omega;omega;simp [Value.ownBlock] at e;simp [Value.ownBlock] at e)
 exact ⟨b,rfl,⟨fb,{ A with z:=fun q=>q=b∨q=fb∨(Value.slice none 0 0).ownBlock=some q∨(Value.slice none 0 0).ownBlock=some q },_,⟨bC,QY,Tz,Sd.nil _,(fun _ h=>nomatch h),fun q=>Iff.rfl,by omega⟩⟩,(aB.trans aK).trans aS⟩
section
variable {h0 h h':aj} {b:Nat} {l:List UInt8}
theorem Gr (k:oK h0 h b l) (hp:Part 0 l) (hm:l.length≤1000000) :
   ai Tryz.prog 26 ⟨[.pointer (some ⟨b,0,none⟩)]⟩ h fun u h'=>u=.tuple ⟨[.agg ⟨Jb⟩,.bool false]⟩∧oK h0 h' b l∧Ext (tZ h0) h h':=by
 obtain ⟨fb,A,v,k⟩:=k
 exact (xy k rfl hp hm).mono fun u h' ⟨a,k,x⟩=>⟨a,⟨fb,A,v,k⟩,x⟩
theorem LS {x:Value} {m:List UInt8} (k:oK h0 h b l) (hr:Rd h x 1 m.length (bK m)) (hl:l.length+m.length≤262144) :
   ai Tryz.prog 25 ⟨[.pointer (some ⟨b,0,none⟩),x]⟩ h fun _ h'=>oK h0 h' b (l++m)∧Ext (tZ h0) h h':=by
 obtain ⟨fb,A,v,k⟩:=k
 exact (xz k rfl hr hl).mono fun u h' ⟨⟨A',v',k⟩,x⟩=>⟨⟨fb,A',v',k⟩,x⟩
theorem IQ {r:List UInt8} (k:oK h0 h b (dz++r)) (hr:r.length≤100000) :
   ai Tryz.prog 26 ⟨[.pointer (some ⟨b,0,none⟩)]⟩ h fun u h'=>u=.tuple ⟨[.agg ⟨Jb⟩,.bool false]⟩∧rI h0 h' b rH true r gM∧Ext (tZ h0) h h':=by
 obtain ⟨fb,A,v,k⟩:=k
 refine (oB k.bB k.fw hr).mono fun u h' ⟨hu,w,M,v',hM,zr,sd,kf,hx,hw,hm,hv⟩=>?_
 have Fj:∀ q,(q=b∨q=fb∨v.ownBlock=some q)→A.z q:=fun q e=>(k.z q).2 (e.elim .inl (fun e=>e.elim (fun e=>.inr (.inl e)) (fun e=>.inr (.inr (.inl e)))))
 have lb:=ak k.bB
 have lf:=ak k.fw.bB
 have s1:=hx.size
 have x0:=k.x0
 refine ⟨hu,⟨fb,{ A with z:=fun q=>q=b∨q=fb∨v'.ownBlock=some q∨w.ownBlock=some q },v',w,M,⟨zr,kf,k.se.Is hx (fun q e=>k.Le q (Fj q e)) (fun q hq=>?_) x0,sd,fun x AW q hq e=>by rw [hv] at e;have:=hm x AW q hq;have:=k.fw.own.lt e;omega,fun q=>Iff.rfl,by omega⟩,hM⟩,hx.mono fun q _ e=>k.lo q (Fj q e)⟩
 rcases hq with hq | hq | hq | hq
 · exact ⟨.inl (Fj q (.inl hq)),by omega⟩
 · exact ⟨.inl (Fj q (.inr (.inl hq))),by omega⟩
 · rw [hv] at hq;exact ⟨.inl (Fj q (.inr (.inr hq))),by have:=k.fw.own.lt hq;omega⟩
 · exact ⟨.inr (hw q hq),sd.lt.1 q hq⟩
end
theorem IU (t:List UInt8):(bx t).n≤99:=by
 unfold bx
 split
 · show (0:Int)≤99;decide
 · split
   · unfold tz
     split
     · split
       · bw n hn
         unfold oc at hn
         split at hn
         · exact nomatch hn
         · split at hn
           · exact nomatch hn
           · split at hn
             · split at hn
               · exact nomatch hn
               · simp only [Option.some.injEq] at hn
                 show n≤99
                 omega
             · exact nomatch hn
       · show (0:Int)≤99;decide
     · split
       · split
         · show (0:Int)≤99;decide
         · show (0:Int)≤99;decide
       · show (0:Int)≤99;decide
   · show (0:Int)≤99;decide
theorem IV (t:List UInt8):(bx t).c.length≤5:=by
 unfold bx
 split
 · exact Nat.zero_le _
 · split
   · unfold tz
     split
     · split
       · exact Nat.zero_le _
       · exact Nat.zero_le _
     · split
       · split
         · bw hc
           unfold tw at hc
           simp only [Bool.and_eq_true,decide_eq_true_eq] at hc
           exact Nat.le_of_eq hc.1
         · exact Nat.zero_le _
       · exact Nat.zero_le _
   · exact Nat.zero_le _
def jo (s:SP):Prop:=∀ q∈s.P,q.2.2.2.2.1.length≤99
def Gu (e:KK):Prop:=∀ c t,e=some (c,t)→c.length≤1000∧t.length≤100000
structure CS (r:gn):Prop where
 cap:jo r.1
 len:r.2.1.length≤101
 TA:∀ x∈r.2.1,x.kind ≠ 69
 er:Gu r.2.2
structure wi (f:gK):Prop where
 name:f.name.length≤300
 bm:f.bm.length≤300
 params:f.params.length≤50
theorem dr:Gu none:=fun _ _ h=>nomatch h
theorem dP {c t:List UInt8} (h1:c.length≤1000) (h2:t.length≤100000):Gu (some (c,t)):=fun c' t' e=>by
 simp only [Option.some.injEq,Prod.mk.injEq] at e
 obtain ⟨rfl,rfl⟩:=e
 exact ⟨h1,h2⟩
theorem lD (t n w:List UInt8):(iM t n w).length=t.length+n.length+w.length+4:=by simp [iM,ku];omega
theorem CT {n:List UInt8} (h:n.length≤300):(om n).length≤1000:=by
 unfold om
 split
 · exact Nat.le_of_ble_eq_true rfl
 · rw [lD];simp;omega
theorem qn:rj.length≤1000:=Nat.le_of_ble_eq_true rfl
theorem ui (t:List UInt8) (st:Int):Gu (gJ t st):=by
 unfold gJ
 split
 · exact dP (Nat.le_of_ble_eq_true rfl) (Nat.le_trans qn (by omega))
 · exact dr
theorem CU (t:List UInt8) (st:Int):Gu (kq t st):=by
 unfold kq
 split
 · exact dP (Nat.le_of_ble_eq_true rfl) (Nat.le_of_ble_eq_true rfl)
 · split
   · exact dP (Nat.le_of_ble_eq_true rfl) (Nat.le_trans qn (by omega))
   · exact dr
section
variable {s:SP}
theorem xH {n:List UInt8} (h:n.length≤300):Gu (jX s n):=by
 unfold jX
 split
 · exact dP (Nat.le_of_ble_eq_true rfl) (Nat.le_trans (CT h) (by omega))
 · exact ui _ _
theorem xI {n:List UInt8} (h:n.length≤300):Gu (hG s n):=by
 unfold hG
 split
 · exact dP (Nat.le_of_ble_eq_true rfl) (by rw [lD];simp;omega)
 · exact ui _ _
theorem jo.of (k:jo s) {s':SP} (h:s'.P=s.P∨s'.P=[]):jo s':=by
 unfold jo
 rcases h with e | e <;> rw [e]
 · exact k
 · exact fun _ h=>nomatch h
theorem jo.tV (k:jo s) (x:List UInt8):jo { s with P:=ct s.P x }:=fun q hq=>k q (cJ hq).1
theorem jo.mi (k:jo s) (x:List UInt8) (v:HP) (h:v.2.2.2.1.length≤99):jo { s with P:=cz s.P x v }:=fun q hq=>by
 rcases cD hq with rfl | ⟨hq,_⟩
 · exact h
 · exact k q hq
theorem jL (k:jo s) {e:KK} (he:Gu e):CS (s,[],e):=⟨k,Nat.zero_le _,(fun _ h=>nomatch h),he⟩
theorem wj (k:jo s) {b:jD} (hb:b.kind ≠ 69):CS (s,[b],none):=⟨k,Nat.le_of_ble_eq_true rfl,fun x hx=>by obtain rfl:=List.mem_singleton.1 hx;exact hb,dr⟩
theorem uj (t:List UInt8) (ps:List eT) (c:Int):(dq (bx t) ps c).1.length≤99:=by
 have:=IU t
 unfold dq
 split
 · rw [ml];unfold dh;omega
 · split
   · exact Nat.le_of_ble_eq_true rfl
   · split
     · exact Nat.le_of_ble_eq_true rfl
     · exact Nat.zero_le _
theorem mT (l:List (List eT)) (m:Bool):(db l m).length=l.length+1:=by simp [db]
theorem oN (l:List (List eT)) (m:Bool):∀ x∈db l m,x.kind ≠ 69:=fun x hx=>by
 unfold db at hx
 rcases List.mem_append.1 hx with hx | hx
 · obtain ⟨r,_,rfl⟩:=List.mem_map.1 hx
   show (68:Int) ≠ 69;decide
 · obtain rfl:=List.mem_singleton.1 hx
   split
   · show (115:Int) ≠ 69;decide
   · show (67:Int) ≠ 69;decide
theorem qp (t:HO):(jm t).kind ≠ 69:=by
 unfold jm
 split
 · show (84:Int) ≠ 69;decide
 · show (110:Int) ≠ 69;decide
theorem xJ (k:jo s) (t:List UInt8):CS (cO s (bx t)):=by
 unfold cO
 split
 · exact wj k (by show (73:Int) ≠ 69;decide)
 · split
   · exact jL k (dP (by have:=IV t;omega) (Nat.le_of_ble_eq_true rfl))
   · refine wj (k.of ?_) (by show (67:Int) ≠ 69;decide)
     dsimp only
     split
     · exact .inr rfl
     · exact .inl rfl
theorem CV (k:jo s) (f:gK) (hf:wi f):CS (eU s f):=by
 have k1:jo (if f.name=[] then { s with L:=ct s.L [] } else s):=by
   split
   · exact k.of (.inl rfl)
   · exact k
 unfold eU
 dsimp only
 generalize (if f.name=[] then { s with L:=ct s.L [] } else s)=s1 at k1 ⊢
 have hr:=CU f.text s.st
 split
 · bw e he
   rw [he] at hr
   exact jL k1 hr
 · split
   · exact jL k1 (dP (Nat.le_of_ble_eq_true rfl) (by unfold xe;rw [lD];have:=hf.name;simp;omega))
   · exact wj (b:={ kind:=49 }) (jo.of k1 (s':={ s1 with L:=cz s1.L f.name (f.text,f.aU) }) (.inl rfl)) (by show (49:Int) ≠ 69;decide)
theorem Fk (k:jo s) {n:Nat} (lm:ei n s) (f:gK) (hf:wi f):CS (fY s f):=by
 have hs:=xH (s:=s) hf.name
 have h1:=hf.name
 have h2:=hf.bm
 have h3:=hf.params
 unfold fY
 split
 · bw e he
   rw [he] at hs
   exact jL k hs
 · split
   · exact jL k dr
   · bw t ht
     have hm:=(lm.l _ (dF ht)).2
     dsimp only at hm
     split
     · refine jL k (dP (Nat.le_of_ble_eq_true rfl) ?_)
       have d1:=dA (f.params.length:Int) (by omega)
       have d2:=dA (t.2.length:Int) (by omega)
       unfold rl
       simp only [List.length_append,tF]
       simp
       omega
     · split
       · exact jL k (dP (Nat.le_of_ble_eq_true rfl) (by rw [lD];simp;omega))
       · exact wj (k.mi _ _ (Nat.zero_le _)) (by show (50:Int) ≠ 69;decide)
theorem uk (k:jo s) (f:gK) (hf:wi f):CS (cG s f):=by
 have hs:=xH (s:=s) hf.name
 have hp:=xI (s:=s) hf.bm
 unfold cG
 split
 · split
   · bw e he
     rw [he] at hs
     exact jL k hs
   · split
     · exact jL k dr
     · bw t ht
       refine ⟨k,Nat.le_of_ble_eq_true rfl,fun x hx=>?_,dr⟩
       rcases List.mem_cons.1 hx with rfl | hx
       · show (116:Int) ≠ 69;decide
       · obtain rfl:=List.mem_singleton.1 hx
         exact qp _
 · split
   · bw e he
     rw [he] at hp
     exact jL k hp
   · split
     · exact jL k dr
     · exact wj k (qp _)
theorem CW {rs:List (List eT)} (ov:Bool) (m:Int) (h:rs.length≤99):(dW rs ov m).1.length≤99∧(dW rs ov m).2.1.length≤99:=by
 unfold dW
 split
 · exact ⟨Nat.zero_le _,h⟩
 · dsimp only
   rw [List.length_take,List.length_drop]
   omega
theorem wk (k:jo s) (f:gK) (hf:wi f):CS (cu s f):=by
 have hp:=xI (s:=s) hf.bm
 unfold cu
 split
 · bw e he
   rw [he] at hp
   exact jL k hp
 · split
   · exact jL k dr
   · bw t o ps rs dm ov hg
     have hm:=k _ (dF hg)
     dsimp only at hm
     split
     · have yg : (if dm = true then (rs, s.aY) else dq (bx t) ps s.aY).1.length ≤ 99 := by
         split
         · exact hm
         · exact uj _ _ _
       dsimp only
       generalize (if dm=true then (rs,s.aY) else dq (bx t) ps s.aY)=rc at yg ⊢
       have hq:=CW ov f.max yg
       exact ⟨jo.mi (s:={ s with aY:=rc.2 }) (k.of (.inl rfl)) _ _ hq.2,by dsimp only;rw [mT];omega,oN _ _,dr⟩
     · split
       · exact jL k (dP (Nat.le_of_ble_eq_true rfl) (Nat.le_of_ble_eq_true rfl))
       · have kt:=xJ k t
         split
         · bw s1 out he
           rw [he] at kt
           refine ⟨?_,kt.len,kt.TA,dr⟩
           dsimp only
           split
           · exact kt.cap
           · exact kt.cap.mi _ _ (Nat.zero_le _)
         · exact kt
theorem Fl (k:jo s) (f:gK):CS (hH s f):=by
 unfold hH
 split
 · exact wj (b:={ kind:=51 }) (jo.of k (s':={ s with L:=ct s.L f.name }) (.inl rfl)) (by show (51:Int) ≠ 69;decide)
 · exact wj (b:={ kind:=51 }) (k.tV _) (by show (51:Int) ≠ 69;decide)
theorem CX (k:jo s) (f:gK):CS (dL s f):=by
 have k1:jo { s with L:=ct s.L [],P:=ct s.P [] }:=(k.tV []).of (.inl rfl)
 have hr:=CU f.text s.st
 unfold dL
 dsimp only
 split
 · bw e he
   rw [he] at hr
   exact jL k1 hr
 · split
   · refine ⟨k1.of (.inl rfl),?_,fun x hx=>?_,dr⟩
     · dsimp only
       rw [List.length_cons,mT]
       have:=uj f.text [] s.aY
       omega
     · rcases List.mem_cons.1 hx with rfl | hx
       · show (84:Int) ≠ 69;decide
       · exact oN _ _ _ hx
   · exact xJ k1 _
theorem Fo (k:jo s) {n:Nat} (lm:ei n s) (f:gK) (hf:wi f):CS (eL s f):=by
 unfold eL
 split
 · exact CV k f hf
 · split
   · exact Fk k lm f hf
   · split
     · exact uk k f hf
     · split
       · exact wk k f hf
       · split
         · exact Fl k f
         · split
           · exact CX k f
           · exact jL k dr
theorem jo.sync (k:jo s):jo (eF s).1:=by
 refine k.of ?_
 unfold eF
 dsimp only
 split
 · exact .inr rfl
 · exact .inl rfl
structure Pb (r:SP × List jD):Prop where
 cap:jo r.1
 len:r.2.length≤103
 er:∀ x∈r.2,x.kind=69→∃ c t,x=pj c t∧c.length≤1000∧t.length≤100000
theorem rS (k:jo s):Pb (s,[]):=⟨k,Nat.zero_le _,fun _ h=>nomatch h⟩
theorem Fp (f:gK) {r:gn} (k:CS r):Pb (fZ f r):=by
 obtain ⟨s1,out,e⟩:=r
 obtain ⟨k1,k2,k3,k4⟩:=k
 dsimp only at k1 k2 k3 k4
 obtain ⟨s2,o2,he,ki,kl,ko⟩:∃ s2 o2,fZ f (s1,out,e)=(if f.kind=81 then ((eF s2).1,o2++[(eF s2).2]) else (s2,o2))∧jo s2∧o2.length≤102∧∀ x∈o2,x.kind=69→∃ c t,x=pj c t∧c.length≤1000∧t.length≤100000:=by
   rcases e with _ | ⟨c,t⟩
   · exact ⟨s1,out,rfl,k1,by omega,fun x hx e=>absurd e (k3 x hx)⟩
   · refine ⟨_,_,rfl,k1.of ?_,by simp;omega,fun x hx e=>?_⟩
     · dsimp only [iC]
       split
       · exact .inr rfl
       · exact .inl rfl
     · rcases List.mem_append.1 hx with hx | hx
       · exact absurd e (k3 x hx)
       · obtain rfl:=List.mem_singleton.1 hx
         exact ⟨c,t,rfl,k4 c t rfl⟩
 rw [he]
 split
 · refine ⟨ki.sync,by simp;omega,fun x hx e=>?_⟩
   rcases List.mem_append.1 hx with hx | hx
   · exact ko x hx e
   · obtain rfl:=List.mem_singleton.1 hx
     exact absurd e (by show (90:Int) ≠ 69;decide)
 · exact ⟨ki,by dsimp only;omega,ko⟩
theorem Fq (k:jo s) {n:Nat} (lm:ei n s) (f:gK) (hf:wi f):Pb (iV s f):=by
 unfold iV
 split
 · exact rS k
 · split
   · exact rS (k.of (.inl rfl))
   · split
     · refine ⟨(jo.of (s':={ s with sk:=false }) k (.inl rfl)).sync,Nat.le_of_ble_eq_true rfl,fun x hx e=>?_⟩
       obtain rfl:=List.mem_singleton.1 hx
       exact absurd e (by show (90:Int) ≠ 69;decide)
     · split
       · exact rS k
       · exact Fp f (Fo k lm f hf)
end
theorem IW {s:SP} (h:jk s.st) (f:gK):jk (iV s f).1.st:=by
 have tn:∀ (s:SP) (v:gm),jk s.st→jk (cO s v).1.st:=fun s v h=>by
   unfold cO
   split
   · exact h
   · split
     · exact h
     · exact tB h v
 have dl:jk (eL s f).1.st:=by
   unfold eL
   split
   · unfold eU
     dsimp only
     repeat' split
     aa exact h
   · split
     · unfold fY
       repeat' split
       aa exact h
     · split
       · unfold cG
         repeat' split
         aa exact h
       · split
         · unfold cu
           split
           · exact h
           · split
             · exact h
             · bw t o ps rs dm ov hg
               split
               · exact h
               · split
                 · exact h
                 · have kt:=tn s (bx t) h
                   split
                   · bw s1 out he
                     rw [he] at kt
                     exact kt
                   · exact kt
         · split
           · unfold hH
             split <;> exact h
           · split
             · unfold dL
               dsimp only
               split
               · exact h
               · split
                 · exact h
                 · exact tn _ _ h
             · exact h
 unfold iV
 split
 · exact h
 · split
   · exact h
   · split
     · exact h
     · split
       · exact h
       · generalize eL s f=r at dl ⊢
         obtain ⟨s1,out,e⟩:=r
         unfold fZ
         rcases e with _ | ⟨c,t⟩
         · dsimp only
           split
           · exact dl
           · exact dl
         · dsimp only
           split
           · exact oe dl
           · exact oe dl
theorem CY {c t:List UInt8} (h1:c.length≤1000) (h2:t.length≤100000):jK (pj c t):=by
 refine ⟨by unfold Kn;exact .inr (.inr (.inr (.inr (.inr (.inl rfl))))),by show (0:Int)≤0∧(0:Int)≤255;decide,?_,Nat.zero_le _,Nat.zero_le _,Nat.zero_le _,Nat.le_of_ble_eq_true rfl,(fun _ h=>nomatch h),(fun _ h=>nomatch h),?_,Nat.zero_le _,Nat.zero_le _,Nat.zero_le _⟩
 · intro x hx
   simp only [pj,kF,List.mem_cons,List.not_mem_nil,or_false] at hx
   rcases hx with rfl | rfl | rfl | rfl <;> dsimp only <;> omega
 · intro x hx
   simp only [pj,kF,List.mem_cons,List.not_mem_nil,or_false] at hx
   rcases hx with rfl | rfl | rfl | rfl <;> dsimp only <;> first | omega | exact Nat.le_of_ble_eq_true rfl
theorem zh {n:Int} (h:n≤100):jK (pW n):=by
 have hl:((gZ (dh n)).map BV).length≤100:=by rw [List.length_map,pV];unfold dh;omega
 refine ⟨by unfold Kn;exact .inr (.inr (.inr (.inl rfl))),by show (0:Int)≤0∧(0:Int)≤255;decide,(fun _ h=>nomatch h),Nat.zero_le _,hl,Nat.zero_le _,Nat.zero_le _,?_,(fun _ h=>nomatch h),(fun _ h=>nomatch h),Nat.zero_le _,Nat.zero_le _,Nat.zero_le _⟩
 intro c hc
 obtain ⟨y,hy,rfl⟩:=List.mem_map.1 hc
 unfold gZ at hy
 obtain ⟨i,hi,rfl⟩:=List.mem_map.1 hy
 have hi:=List.mem_range.1 hi
 have hh:=jC n
 have:=dA ((i+1:Nat):Int) (by omega)
 show (99 :: dE ((i+1:Nat):Int)).length≤1000
 rw [List.length_cons]
 omega
theorem Fs {G:Prop} {x:jD} (k:hX 50 300 G x) (he:x.kind=69→∃ c t,x=pj c t∧c.length≤1000∧t.length≤100000):jK x:=by
 rcases k with h | ⟨k,rfl,h⟩ | ⟨t,rfl,_,ht⟩ | ⟨o,rfl,ho⟩ | ⟨r,rfl,hr⟩ | ⟨n,rfl,hn⟩
 · obtain ⟨c,t,rfl,h1,h2⟩:=he h
   exact CY h1 h2
 · clear he
   exact ⟨by unfold Kn;dsimp only;omega,by show (0:Int)≤0∧(0:Int)≤255;decide,(fun _ h=>nomatch h),Nat.zero_le _,Nat.zero_le _,Nat.zero_le _,Nat.zero_le _,(fun _ h=>nomatch h),(fun _ h=>nomatch h),(fun _ h=>nomatch h),Nat.zero_le _,Nat.zero_le _,Nat.zero_le _⟩
 · exact ⟨by unfold Kn;dsimp only;omega,by show (0:Int)≤0∧(0:Int)≤255;decide,(fun _ h=>nomatch h),Nat.zero_le _,Nat.zero_le _,Nat.zero_le _,Nat.zero_le _,(fun _ h=>nomatch h),(fun _ h=>nomatch h),(fun _ h=>nomatch h),ht,Nat.zero_le _,Nat.zero_le _⟩
 · exact ⟨by unfold Kn;dsimp only;omega,by show (0:Int)≤0∧(0:Int)≤255;decide,(fun _ h=>nomatch h),Nat.le_trans ho.1 (by omega),Nat.zero_le _,Nat.zero_le _,Nat.zero_le _,(fun _ h=>nomatch h),(fun _ h=>nomatch h),(fun _ h=>nomatch h),Nat.zero_le _,Nat.zero_le _,Nat.zero_le _⟩
 · exact ⟨by unfold Kn;dsimp only;omega,by show (0:Int)≤0∧(0:Int)≤255;decide,(fun _ h=>nomatch h),Nat.zero_le _,Nat.zero_le _,Nat.le_trans hr.1 (by omega),Nat.zero_le _,(fun _ h=>nomatch h),fun c hc=>Nat.le_trans (hr.2 c hc).1 (by omega),(fun _ h=>nomatch h),Nat.zero_le _,Nat.zero_le _,Nat.zero_le _⟩
 · exact zh (by omega)
theorem LU {st:Int} (h:jk st):jK { kind:=90,status:=st } :=
 ⟨.inl rfl,by show 0≤st∧st≤255;rcases h with rfl | rfl | rfl <;> decide,(fun _ h=>nomatch h),Nat.zero_le _,Nat.zero_le _,Nat.zero_le _,Nat.zero_le _,(fun _ h=>nomatch h),(fun _ h=>nomatch h),(fun _ h=>nomatch h),Nat.zero_le _,Nat.zero_le _,Nat.zero_le _⟩
structure rT (n:Nat) (s:SP):Prop where
 JD:ei n s
 inv:Inv 50 300 False s
 cap:jo s
 st:jk s.st
theorem LV:rT 0 rH:=⟨EU,⟨(fun _ h=>nomatch h),(fun _ h=>nomatch h),by decide⟩,(fun _ h=>nomatch h),.inl rfl⟩
theorem rT.step {n:Nat} {s:SP} (k:rT n s) (hn:n < 1000000) (f:gK) (hf:wi f) (fl:oz f) (hq:Cw 50 False f.aU) (hr:fa 50 300 False f.params) :
   rT (n+1) (iV s f).1∧(∀ p∈(iV s f).2,jK p)∧(iV s f).2.length≤103:=by
 have kf:=Fq k.cap k.JD f hf
 have st:=IW k.st f
 obtain ⟨ki,l,el,hl⟩:=EN k.inv k.JD hn (by omega) (by omega) f hq hr
 refine ⟨⟨EJ k.JD f fl,ki,kf.cap,st⟩,fun p hp=>?_,kf.len⟩
 have Dl:=hp
 rw [el] at Dl
 rcases List.mem_append.1 Dl with Dl | Dl
 · exact Fs (hl p Dl) (kf.er p hp)
 · split at Dl
   · obtain rfl:=List.mem_singleton.1 Dl
     exact LU st
   · exact nomatch Dl
def lE (s:SP):List Fm→SP
 | []=>s
 | f :: l=>lE (iV s f.p).1 l
def iT (s:SP):List Fm→List jD
 | []=>[]
 | f :: l=>(iV s f.p).2++iT (iV s f.p).1 l
theorem CZ (s:SP) (l m:List Fm):lE s (l++m)=lE (lE s l) m:=by
 induction l generalizing s with
 | nil=>rfl
 | cons f l ih=>exact ih _
theorem um (s:SP) (l m:List Fm):iT s (l++m)=iT s l++iT (lE s l) m:=by
 induction l generalizing s with
 | nil=>rfl
 | cons f l ih=>rw [List.cons_append,iT,ih,iT,lE,List.append_assoc]
theorem C0 (s:SP) (h:s.ov=true) (l:List Fm):iT s l=[]:=by
 induction l with
 | nil=>rfl
 | cons f l ih =>
   have e:iV s f.p=(s,[]):=by unfold iV;rw [if_pos h]
   rw [iT,e]
   exact ih
structure Gd (f:Fm):Prop where
 w:f.xA
 m:f.may
theorem Gd.JD {f:Fm} (k:Gd f):∀ g:Fm,g.pl=f.pl→hJ g:=fun g e=>by
 simp only [Fm.pl,Prod.mk.injEq] at e
 obtain ⟨_,_,e3,e4,e5,e6,_,_,e9,Vg⟩:=e
 have e9:=congrArg List.length e9
 simp only [List.length_map] at e9
 have:=k.m.max
 have:=k.w.params
 have:=k.w.aU
 exact ⟨by rw [e3];have:=k.w.name;omega,by rw [e4];have:=k.w.bm;omega,by rw [e5];have:=k.w.text;omega,by rw [e6];omega,by omega,by omega⟩
theorem Gd.step {f:Fm} (k:Gd f) {n:Nat} {s:SP} (o:rT n s) (hn:n < 1000000):rT (n+1) (iV s f.p).1∧(∀ p∈(iV s f.p).2,jK p)∧(iV s f.p).2.length≤103:=by
 have lp:f.p.params.length≤50:=by show (f.params.map bj.pl).length≤_;rw [List.length_map];exact k.w.params
 have lt:=k.w.text
 have lo:=k.w.aU
 exact o.step hn f.p ⟨k.w.name,k.w.bm,lp⟩ ⟨by show f.text.length≤_;omega,by show f.aU.length≤_;omega,by omega⟩ ⟨k.w.aU,fun z=>z.elim⟩ ⟨lp,fun c hc=>by
   obtain ⟨d,hd,rfl⟩:=List.mem_map.1 (show c∈f.params.map bj.pl from hc)
   exact ⟨k.w.cells d hd,fun z=>z.elim⟩⟩
theorem C1 {s:SP} {n:Nat} (o:rT n s) (l:List Fm) (k:∀ f∈l,Gd f) (hn:n+l.length≤100000):rT (n+l.length) (lE s l)∧(∀ p∈iT s l,jK p)∧(iT s l).length≤103 * l.length:=by
 induction l generalizing s n with
 | nil=>exact ⟨o,(fun _ h=>nomatch h),Nat.zero_le _⟩
 | cons f l ih =>
   simp only [List.length_cons] at hn ⊢
   obtain ⟨o1,m1,l1⟩:=(k f (List.mem_cons_self ..)).step o (by omega)
   obtain ⟨o2,m2,l2⟩:=ih o1 (fun g hg=>k g (List.mem_cons_of_mem _ hg)) (by omega)
   refine ⟨by rw [show n+(l.length+1)=n+1+l.length by omega];exact o2,fun p hp=>?_,?_⟩
   · rw [iT] at hp
     rcases List.mem_append.1 hp with hp | hp
     · exact m1 p hp
     · exact m2 p hp
   · rw [iT,List.length_append]
     omega
def mw (l:List Fm):List UInt8:=l.flatMap fun f=>iU f.kind (iS f)
theorem qu (f:Fm) (l:List Fm):mw (f :: l)=iU f.kind (iS f)++mw l:=rfl
theorem C2:Part 1 []:=.inl (by decide)
theorem oO {k:Int} {m r:List UInt8} (hm:m.length≤60000):iN (((iU k m++r).drop 1).take 4)=((4+m.length:Nat):Int):=by
 have j3:(be (4+(m.length:Int)) 4).length=4:=bA ..
 have e1:(iU k m++r).drop 1=be (4+(m.length:Int)) 4++(m++r):=by simp [iU]
 have e2:((iU k m++r).drop 1).take 4=be (4+(m.length:Int)) 4:=by rw [e1,List.take_append_of_le_length (by omega),List.take_of_length_le (by omega)]
 rw [e2,rO (by omega) (by show _ < (4294967296:Int);omega)]
 omega
theorem wm {k:Int} {m r l t:List UInt8} (e:l++t=iU k m++r) (hm:m.length≤60000):Part 1 l∨∃ r',l=iU k m++r'∧r'++t=r:=by
 by_cases h:(iU k m).length≤l.length
 · obtain ⟨r', rfl⟩ : ∃ r', l = iU k m ++ r' := by
     have e1:=congrArg (List.take (iU k m).length) e
     rw [List.take_append_of_le_length h,List.take_left] at e1
     exact ⟨l.drop (iU k m).length, by rw [← e1]; conv => lhs; rw [← List.take_append_drop (iU k m).length l]
                                        rw [e1]⟩
   rw [List.append_assoc] at e
   exact .inr ⟨r',rfl,List.append_cancel_left e⟩
 · refine .inl ?_
   rw [iH] at h
   by_cases h5:l.length < 1+4
   · exact .inl h5
   · refine .inr ⟨by omega,4+m.length,?_,⟨by omega,by omega⟩,by omega⟩
     rw [← oO (k:=k) (r:=r) hm,← e,List.drop_append_of_le_length (by omega),List.take_append_of_le_length (by rw [List.length_drop];omega)]
theorem eh:dz.length=16:=by decide
theorem oP {a:Nat} (h:a < 16) (r:List UInt8):Part 0 ((dz++r).take a):=by
 rw [List.take_append_of_le_length (by rw [eh];omega)]
 have hl:(dz.take a).length=a:=by rw [List.length_take,eh];omega
 by_cases h4:a < 4
 · exact .inl (by omega)
 · refine .inr ⟨by omega,16,?_,by decide,by omega⟩
   rw [List.drop_zero,List.take_take,show min 4 a=4 by omega]
   decide
abbrev eG (fs:List Fm):List UInt8:=dz++mw fs
noncomputable def oQ (D:List Fm):List (Int × List UInt8):=gM++(iT rH D).flatMap eV
def LW (h0 h:aj) (b:Nat) (fs:List Fm) (a:Nat) (T O:List (Int × List UInt8)) (n:Nat) (i:Bool):Prop :=
 16≤a∧∃ D R l,fs=D++R∧D.length=n∧rI h0 h b (lE rH D) true l O∧((lE rH D).ov=false→l++(eG fs).drop a=mw R∧(i=true→Part 1 l))∧T++O=oQ D
def sf (h0 h:aj) (b:Nat) (fs:List Fm) (a:Nat) (T:List (Int × List UInt8)) (n:Nat) (i:Bool):Prop:=∃ O,LW h0 h b fs a T O n i
def Vv (h0 h:aj) (b:Nat) (fs:List Fm) (a:Nat) (T:List (Int × List UInt8)) (n:Nat) (i:Bool):Prop :=
 (oK h0 h b ((eG fs).take a)∧T=[]∧n=0∧(i=true→a < 16))∨sf h0 h b fs a T n i
def Fm.one (g:Fm):Prop:=∀ v∈g.cells,v.oneCell'=true
def TB (h0 h:aj) (b:Nat) (fs:List Fm) (a:Nat) (T:List (Int × List UInt8)) (n:Nat) (u:Value) (h':aj):Prop :=
 (∃ (g:Fm) (ok:Bool),u=.tuple ⟨[.agg ⟨g.cells⟩,.bool ok]⟩∧g.one∧((ok=false∧g.kind=0∧(Vv h0 h' b fs a T n true∨sf h0 h' b fs a T n false))∨(ok=true∧sf h0 h' b fs a T (n+1) false)))∧Ext (tZ h0) h h'
def Ft (h0 h:aj) (b:Nat) (fs:List Fm) (a:Nat) (T:List (Int × List UInt8)) (n:Nat) (i:Bool):Prop :=
 (oK h0 h b ((eG fs).take a)∧T=[]∧n=0∧(i=true→a < 16))∨LW h0 h b fs a T [] n i
def Gv:Fm:=⟨0,0,[],[],[],.slice none 0 0,[],.slice none 0 0,[],.slice none 0 0,[],.slice none 0 0,[],0⟩
structure uD (fs:List Fm):Prop where
 g:∀ f∈fs,Gd f
 n:fs.length≤20
 l:(eG fs).length≤3000
section
variable {h0 h h':aj} {b:Nat} {fs:List Fm} {a n:Nat} {T:List (Int × List UInt8)} {i:Bool} {S:Nat→Prop}
theorem uo (l:List jD):(l.flatMap eV).length≤l.length:=by
 induction l with
 | nil=>exact Nat.le_refl _
 | cons p l ih =>
   have:(eV p).length≤1:=by unfold eV;split <;> simp
   rw [List.flatMap_cons,List.length_append,List.length_cons]
   omega
theorem zi:gM.length≤3:=by
 have:=uo (u4.map Bk.p)
 rw [List.flatMap_map] at this
 exact this
theorem uD.sub {D R:List Fm} (k:uD fs) (e:fs=D++R):rT D.length (lE rH D)∧(∀ p∈iT rH D,jK p)∧(iT rH D).length≤2060∧D.length≤20:=by
 have hl:D.length+R.length≤20:=by have:=k.n;rw [e,List.length_append] at this;exact this
 obtain ⟨o,m,l⟩:=C1 LV D (fun f hf=>k.g f (by rw [e];exact List.mem_append_left _ hf)) (by omega)
 rw [Nat.zero_add] at o
 exact ⟨o,m,by omega,by omega⟩
theorem oR {D R:List Fm} (k:uD fs) (e:fs=D++R):(oQ D).length≤2063:=by
 obtain ⟨_,_,l,_⟩:=k.sub e
 have:=uo (iT rH D)
 have:=zi
 unfold oQ
 rw [List.length_append]
 omega
theorem LW.av {O:List (Int × List UInt8)} (k:LW h0 h b fs a T O n i) (x:Ext No h h'):LW h0 h' b fs a T O n i:=by
 obtain ⟨ha,D,R,l,e1,e2,k,e3,e4⟩:=k
 exact ⟨ha,D,R,l,e1,e2,k.av x,e3,e4⟩
theorem oK.av {l:List UInt8} (k:oK h0 h b l) (x:Ext No h h'):oK h0 h' b l:=by
 obtain ⟨fb,A,v,k⟩:=k
 exact ⟨fb,A,v,k.av x⟩
theorem sf.av (k:sf h0 h b fs a T n i) (x:Ext No h h'):sf h0 h' b fs a T n i:=by
 obtain ⟨O,k⟩:=k
 exact ⟨O,k.av x⟩
theorem Vv.av (k:Vv h0 h b fs a T n i) (x:Ext No h h'):Vv h0 h' b fs a T n i:=by
 rcases k with ⟨k,e⟩ | k
 · exact .inl ⟨k.av x,e⟩
 · exact .inr (k.av x)
theorem sf.le (k:sf h0 h b fs a T n i):n≤fs.length:=by
 obtain ⟨O,_,D,R,l,e1,e2,_⟩:=k
 rw [e1,List.length_append]
 omega
theorem Vv.le (k:Vv h0 h b fs a T n i):n≤fs.length:=by
 rcases k with ⟨_,_,e,_⟩ | k
 · omega
 · exact k.le
theorem sf.C3 (k:sf h0 h b fs a T n i):sf h0 h b fs a T n false:=by
 obtain ⟨O,ha,D,R,l,e1,e2,k,e3,e4⟩:=k
 exact ⟨O,ha,D,R,l,e1,e2,k,fun o=>⟨(e3 o).1,fun z=>nomatch z⟩,e4⟩
theorem Vv.C3 (k:Vv h0 h b fs a T n i):Vv h0 h b fs a T n false:=by
 rcases k with ⟨k,e1,e2,e3⟩ | k
 · exact .inl ⟨k,e1,e2,fun z=>nomatch z⟩
 · exact .inr k.C3
theorem C4 (l m:List Fm):mw (l++m)=mw l++mw m:=List.flatMap_append
theorem rU {D R:List Fm} (e:fs=D++R):(mw R).length≤(eG fs).length:=by
 rw [e,eG,C4,List.length_append,List.length_append]
 omega
theorem zj (fs:List Fm) {a:Nat} (h:16≤a):(eG fs).drop a=(mw fs).drop (a - 16):=by
 rw [eG,List.drop_append,eh,List.drop_of_length_le (by rw [eh];omega),List.nil_append]
theorem zm (fs:List Fm) {a:Nat} (h:16≤a):(eG fs).take a=dz++(mw fs).take (a - 16):=by
 rw [eG,List.take_append,eh,List.take_of_length_le (by rw [eh];omega)]
theorem C5 (gs:uD fs) (er:Er h) (zf:0 < h0.size) (k:sf h0 h b fs a T n i) :
   ai Tryz.prog 26 ⟨[.pointer (some ⟨b,0,none⟩)]⟩ h fun u h'=>(∃ (g:Fm) (ok:Bool),u=.tuple ⟨[.agg ⟨g.cells⟩,.bool ok]⟩∧g.one∧((ok=false∧g.kind=0∧sf h0 h' b fs a T n true)∨(ok=true∧i=false∧sf h0 h' b fs a T (n+1) false)))∧Ext (tZ h0) h h':=by
 obtain ⟨O,ha,D,R,l,e1,e2,k,e3,e4⟩:=k
 obtain ⟨o,hm,_,hl⟩:=gs.sub e1
 have hO:O.length≤2063:=by have:=oR gs e1;rw [← e4,List.length_append] at this;omega
 have iE:Gv.one:=by unfold Fm.one;decide
 cases ho:(lE rH D).ov
 · obtain ⟨e5,e6⟩:=e3 ho
   have part:Part 1 l→ai Tryz.prog 26 ⟨[.pointer (some ⟨b,0,none⟩)]⟩ h fun u h'=>(∃ (g:Fm) (ok:Bool),u=.tuple ⟨[.agg ⟨g.cells⟩,.bool ok]⟩∧g.one∧((ok=false∧g.kind=0∧sf h0 h' b fs a T n true)∨(ok=true∧i=false∧sf h0 h' b fs a T (n+1) false)))∧Ext (tZ h0) h h':=fun hp =>
     (za k ho hp (by have:=gs.l;have h5:=congrArg List.length e5;have:=rU e1;rw [List.length_append] at h5;omega)).mono fun u h' ⟨hu,k',x⟩=>⟨⟨Gv,false,hu,iE,.inl ⟨rfl,rfl,O,ha,D,R,l,e1,e2,k',fun _=>⟨e5,fun _=>hp⟩,e4⟩⟩,x⟩
   rcases R with _ | ⟨f,R⟩
   · have:l=[]:=(List.append_eq_nil_iff.1 (e5.trans (show mw []=[] from rfl))).1
     subst this
     exact part C2
   · have gf:=gs.g f (by rw [e1];simp)
     have uP:=lB gf.w
     rw [qu] at e5
     rcases wm e5 (by omega) with hp | ⟨r,rfl,e7⟩
     · exact part hp
     · cases i
       · obtain ⟨o1,m1,l1⟩:=gf.step o (by omega)
         have hr:r.length≤3000:=by
           have:=congrArg List.length e7
           have h2:=rU (D:=D++[f]) (R:=R) (fs:=fs) (by rw [e1];simp)
           have h3:=gs.l
           rw [List.length_append] at this
           omega
         refine (CQ f k ho gf.w gf.m er zf o.JD (by omega) gf.JD m1 (by omega) (by omega)).mono fun u h' ⟨⟨g,gp,g1,hu⟩,k',x⟩=>⟨⟨g,true,hu,g1,.inr ⟨rfl,rfl,O++(iV (lE rH D) f.p).2.flatMap eV,ha,D++[f],R,r,(by rw [e1];simp),(by rw [List.length_append,e2];rfl),?_,?_,?_⟩⟩,x⟩
         · rw [CZ]
           exact k'
         · exact fun _=>⟨e7,fun z=>nomatch z⟩
         · rw [← List.append_assoc,e4]
           unfold oQ
           rw [um,List.flatMap_append,List.append_assoc]
           simp [iT]
       · have hp:=e6 rfl
         exact part hp
 · exact (zb k ho).mono fun u h' ⟨hu,k',x⟩=>⟨⟨Gv,false,hu,iE,.inl ⟨rfl,rfl,O,ha,D,R,l,e1,e2,k',(fun z=>by rw [ho] at z;cases z),e4⟩⟩,x.mono fun _ _ e=>e.elim⟩
theorem LX (gs:uD fs) (er:Er h) (zf:0 < h0.size) (k:Vv h0 h b fs a T n i) :
   ai Tryz.prog 26 ⟨[.pointer (some ⟨b,0,none⟩)]⟩ h (TB h0 h b fs a T n):=by
 have iE:Gv.one:=by unfold Fm.one;decide
 rcases k with ⟨k,rfl,rfl,e3⟩ | k
 · by_cases ha:a < 16
   · exact (Gr k (oP ha _) (by have:=gs.l;rw [List.length_take];omega)).mono fun u h' ⟨hu,k',x⟩=>⟨⟨Gv,false,hu,iE,.inl ⟨rfl,rfl,.inl (.inl ⟨k',rfl,rfl,fun _=>ha⟩)⟩⟩,x⟩
   · rw [zm fs (by omega)] at k
     refine (IQ k (by have:=gs.l;rw [eG,List.length_append] at this;rw [List.length_take];omega)).mono fun u h' ⟨hu,k',x⟩=>⟨⟨Gv,false,hu,iE,.inl ⟨rfl,rfl,.inr ⟨gM,by omega,[],fs,_,rfl,rfl,k',fun _=>⟨?_,fun z=>nomatch z⟩,by simp [oQ,iT]⟩⟩⟩,x⟩
     rw [zj fs (by omega),List.take_append_drop]
 · exact (C5 gs er zf k).mono fun u h' ⟨⟨g,ok,hu,h1,e⟩,x⟩=>⟨⟨g,ok,hu,h1,e.elim (fun ⟨e1,e2,k⟩=>.inl ⟨e1,e2,.inl (.inr k)⟩) (fun ⟨e1,_,k⟩=>.inr ⟨e1,k⟩)⟩,x⟩
theorem LY (gs:uD fs) (er:Er h) (zf:0 < h0.size) (k:Vv h0 h b fs a T n true∨sf h0 h b fs a T n false) :
   ai Tryz.prog 26 ⟨[.pointer (some ⟨b,0,none⟩)]⟩ h fun u h'=>(∃ (g:Fm) (ok:Bool),u=.tuple ⟨[.agg ⟨g.cells⟩,.bool ok]⟩∧g.one∧((ok=false∧Vv h0 h' b fs a T n true)∨(ok=true∧sf h0 h' b fs a T (n+1) false)))∧Ext (tZ h0) h h':=by
 have iE:Gv.one:=by unfold Fm.one;decide
 rcases k with (⟨k,rfl,rfl,e3⟩ | k) | k
 · have ha:=e3 rfl
   exact (Gr k (oP ha _) (by have:=gs.l;rw [List.length_take];omega)).mono fun u h' ⟨hu,k',x⟩=>⟨⟨Gv,false,hu,iE,.inl ⟨rfl,.inl ⟨k',rfl,rfl,fun _=>ha⟩⟩⟩,x⟩
 · exact (C5 gs er zf k).mono fun u h' ⟨⟨g,ok,hu,h1,e⟩,x⟩=>⟨⟨g,ok,hu,h1,e.elim (fun ⟨e1,_,k⟩=>.inl ⟨e1,.inr k⟩) (fun ⟨e1,_,k⟩=>.inr ⟨e1,k⟩)⟩,x⟩
 · exact (C5 gs er zf k).mono fun u h' ⟨⟨g,ok,hu,h1,e⟩,x⟩=>⟨⟨g,ok,hu,h1,e.elim (fun ⟨e1,_,k⟩=>.inl ⟨e1,.inr k⟩) (fun ⟨e1,_,k⟩=>.inr ⟨e1,k⟩)⟩,x⟩
theorem IX {x:Value} {m:List UInt8} {c:Nat} (gs:uD fs) (k:Vv h0 h b fs a T n i) (hm:m=((eG fs).drop a).take c) (hr:Rd h x 1 m.length (bK m)) :
   ai Tryz.prog 25 ⟨[.pointer (some ⟨b,0,none⟩),x]⟩ h fun _ h'=>Vv h0 h' b fs (a+c) T n false∧Ext (tZ h0) h h':=by
 have hl:=gs.l
 have uP:m.length≤3000:=by rw [hm,List.length_take,List.length_drop];omega
 rcases k with ⟨k,rfl,rfl,e3⟩ | ⟨O,ha,D,R,l,e1,e2,k,e3,e4⟩
 · refine (LS k hr (by rw [List.length_take];omega)).mono fun u h' ⟨k',x⟩=>⟨.inl ⟨?_,rfl,rfl,fun z=>nomatch z⟩,x⟩
   rw [List.take_add,← hm]
   exact k'
 · cases ho:(lE rH D).ov
   · obtain ⟨e5,_⟩:=e3 ho
     have uQ:l.length≤3000:=by
       have:=congrArg List.length e5
       have h2:=rU e1
       rw [List.length_append] at this
       omega
     refine (It k ho hr (by omega)).mono fun u h' ⟨k',x⟩=>⟨.inr ⟨O,by omega,D,R,_,e1,e2,k',fun _=>⟨?_,fun z=>nomatch z⟩,e4⟩,x⟩
     rw [hm,List.append_assoc,← List.drop_drop,List.take_append_drop]
     exact e5
   · obtain ⟨A,cc,rfl,_⟩:=id hr
     exact (zc k ho ⟨_,_,_,rfl⟩).mono fun u h' ⟨k',hz⟩=>by
       subst hz
       exact ⟨.inr ⟨O,by omega,D,R,l,e1,e2,k',fun z=>(by rw [ho] at z;cases z),e4⟩,.refl _ _⟩
theorem Ft.sv (k:Ft h0 h b fs a T n i):Vv h0 h b fs a T n i:=k.imp id fun k=>⟨[],k⟩
theorem Ft.C3 (k:Ft h0 h b fs a T n i):Vv h0 h b fs a T n false:=k.sv.C3
theorem Vv.LZ (gs:uD fs) (k:Vv h0 h b fs a T n i):T.length≤2063:=by
 rcases k with ⟨_,rfl,_⟩ | ⟨O,ha,D,R,l,e1,e2,k,e3,e4⟩
 · exact Nat.zero_le _
 · have:=oR gs e1
   rw [← e4,List.length_append] at this
   omega
theorem IY (gs:uD fs) (k:Vv h0 h b fs a T n i) :
   ai Tryz.prog 27 ⟨[.pointer (some ⟨b,0,none⟩)]⟩ h fun u h'=>((u=.tuple ⟨[.agg ⟨[.int .u8 0,.slice none 0 0]⟩,.bool false]⟩∧Ft h0 h' b fs a T n i)∨(∃ (y:Int × List UInt8) (m:Value),u=.tuple ⟨[.agg ⟨[.int .u8 y.1,m]⟩,.bool true]⟩∧Own h' m 5 1 y.2.length (bK y.2)∧Vv h0 h' b fs a (T++[y]) n i))∧Ext (tZ h0) h h':=by
 rcases k with ⟨k,rfl,rfl,e3⟩ | ⟨O,ha,D,R,l,e1,e2,k,e3,e4⟩
 · obtain ⟨fb,A,v,k⟩:=k
   exact (mv k.bB).mono fun u h' ⟨e,x⟩=>⟨.inl ⟨e,.inl ⟨⟨fb,A,v,k.av x⟩,rfl,rfl,e3⟩⟩,x.mono fun _ _ e=>e.elim⟩
 · rcases O with _ | ⟨y,O⟩
   · exact (zg k).mono fun u h' ⟨e,k',x⟩=>⟨.inl ⟨e,.inr ⟨ha,D,R,l,e1,e2,k',e3,e4⟩⟩,x.mono fun _ _ e=>e.elim⟩
   · have hO:O.length≤2063:=by have:=oR gs e1;rw [← e4,List.length_append,List.length_cons] at this;omega
     exact (take_one k (by omega)).mono fun u h' ⟨m,e,ho,k',x⟩=>⟨.inr ⟨y,m,e,ho,.inr ⟨O,ha,D,R,l,e1,e2,k',e3,by rw [← e4];simp⟩⟩,x⟩
theorem C6 {k:Int} {m r:List UInt8} (hm:m.length≤60000):¬ Part 1 (iU k m++r):=fun h=>by
 have hl:=iH k m
 rcases h with h | ⟨_,n,hn,_,h⟩
 · rw [List.length_append] at h;omega
 · rw [oO hm] at hn
   rw [List.length_append] at h
   omega
theorem Ft.fin (gs:uD fs) (k:Ft h0 h b fs a T n true) (ha:a=(eG fs).length):T=oQ fs:=by
 subst ha
 rcases k with ⟨_,_,_,e⟩ | ⟨ha,D,R,l,e1,e2,k,e3,e4⟩
 · have:=e rfl
   have:=eh
   simp only [eG,List.length_append] at *
   omega
 · rw [List.append_nil] at e4
   rw [e4]
   cases ho:(lE rH D).ov
   · obtain ⟨e5,e6⟩:=e3 ho
     have hp:=e6 rfl
     rw [List.drop_length,List.append_nil] at e5
     rcases R with _ | ⟨f,R⟩
     · rw [e1,List.append_nil]
     · rw [e5,qu] at hp
       have:=lB (gs.g f (by rw [e1];simp)).w
       exact absurd hp (C6 (by omega))
   · unfold oQ
     rw [e1,um,C0 _ ho,List.append_nil]
def C7 (T:List (Int × List UInt8)):List UInt8:=T.flatMap fun y=>UInt8.ofNat y.1.toNat :: y.2
theorem C8 (T:List (Int × List UInt8)) (y:Int × List UInt8):C7 (T++[y])=C7 T++([UInt8.ofNat y.1.toNat]++y.2):=by simp [C7]
theorem nz {α β:Type} (f:α→List β) (N:Nat) (l:List α) (h:∀ x∈l,(f x).length≤N):(l.flatMap f).length≤l.length * N:=by
 induction l with
 | nil=>simp
 | cons x l ih =>
   have h1:=h x (List.mem_cons_self ..)
   have h2:=ih fun y hy=>h y (List.mem_cons_of_mem _ hy)
   rw [List.flatMap_cons,List.length_append,List.length_cons,Nat.succ_mul]
   omega
theorem C9 {b:Bk} (h:b.Km):(eK b).length≤30000000:=by
 have h1:=nz dV 1100 b.row fun c hc=>oa (h.cells c hc)
 have h2:=nz ji 1100 b.dt fun c hc=>n9 (h.names c hc)
 have h3:=nz (fun n:Int=>be n 4) 4 b.aU fun c hc=>by rw [bA];exact Nat.le_refl _
 have h4:=tu b.fields 200000 h.texts
 have h5:=h.row
 have h6:=h.dt
 have h7:=h.aU
 have h8:=h.fields
 have h9:=h.tag
 have ha:=h.name
 have hb:=h.value
 unfold eK
 repeat' split
 aa simp only [List.length_append,List.length_cons,List.length_nil,bA]
 aa omega
theorem nA {p:jD} (h:jK p):∀ y∈eV p,y.2.length≤30000000∧0 < y.1∧y.1≤255:=fun y hy=>by
 unfold eV at hy
 split at hy
 · obtain rfl:=List.mem_singleton.1 hy
   have hk:=h.kind
   unfold Kn at hk
   exact ⟨C9 (jK.of (vU p) h).1,by dsimp only;omega,by dsimp only;omega⟩
 · exact nomatch hy
theorem Da:∀ y∈gM,y.2.length≤30000000∧0 < y.1∧y.1≤255:=fun y hy=>by
 obtain ⟨p,hp,hy⟩:=List.mem_flatMap.1 hy
 simp only [List.mem_cons,List.not_mem_nil,or_false] at hp
 rcases hp with rfl | rfl | rfl
 · exact nA (mr (by simp [Kn]) (by decide)) y hy
 · exact nA (mr (by simp [Kn]) (by decide)) y hy
 · exact nA (mr (by simp [Kn]) (by decide)) y hy
theorem xK {D R:List Fm} (gs:uD fs) (e:fs=D++R):∀ y∈oQ D,y.2.length≤30000000∧0 < y.1∧y.1≤255:=fun y hy=>by
 obtain ⟨_,hm,_,_⟩:=gs.sub e
 unfold oQ at hy
 rcases List.mem_append.1 hy with hy | hy
 · exact Da y hy
 · obtain ⟨p,hp,hy⟩:=List.mem_flatMap.1 hy
   exact nA (hm p hp) y hy
theorem Vv.C7 (gs:uD fs) (k:Vv h0 h b fs a T n i):(C7 T).length≤100000000000:=by
 have hl:=k.LZ gs
 have hy:∀ y∈T,y.2.length≤30000000:=by
   rcases k with ⟨_,rfl,_⟩ | ⟨O,ha,D,R,l,e1,e2,k,e3,e4⟩
   · exact fun _ h=>nomatch h
   · exact fun y hy=>(xK gs e1 y (by rw [← e4];exact List.mem_append_left _ hy)).1
 have:=nz (fun y:Int × List UInt8=>UInt8.ofNat y.1.toNat :: y.2) 30000001 T fun y h=>by rw [List.length_cons];have:=hy y h;omega
 unfold Go.Proofs.YtopgddfgefnmbaaGreatDoor.C7
 omega
theorem Vv.body (gs:uD fs) {y:Int × List UInt8} (k:Vv h0 h b fs a (T++[y]) n i):y.2.length≤30000000∧0 < y.1∧y.1≤255:=by
 rcases k with ⟨_,e,_⟩ | ⟨O,ha,D,R,l,e1,e2,k,e3,e4⟩
 · simp at e
 · exact xK gs e1 y (by rw [← e4];simp)
end
end Go.Proofs.YtopgddfgefnmbaaGreatDoor
