/-
  SEVERAL TEXTS IN ONE: Dx4, Sx3, Sx4, Dx5, Mpk, Dx6, Dx7, Sx5, StrJ, Dig, Tell, Cols, Dx8, Dx10, Dx11, Dx12, Dx13, ColsR, Dx14, Dx15, K29.
-/
import Derived.Test.YtopgddfgefnmbaaGreatDoorPSoloPieces3
import Derived.Below
set_option maxHeartbeats 8000000
set_option maxRecDepth 100000
namespace Go.Proofs.YtopgddfgefnmbaaGreatDoor
open Go Go.RK
theorem zQ {h:ah} (s:List UInt8) (most:Int):ag Tryz.prog 288 ⟨[St s,In most]⟩ h fun u h'=>u=zP (ny s most)∧h'=h:=by
 unfold ny
 by_cases h1:s=[]∨10 < s.length
 · rw [if_pos h1]
   exact ug s most h1
 · rw [if_neg h1]
   have LH:s ≠ []∧s.length≤10:=⟨fun e=>h1 (.inl e),by omega⟩
   by_cases h2:s[0]?=some 48∧1 < s.length
   · rw [if_pos h2]
     exact uh s most LH h2
   · rw [if_neg h2]
     exact xj s most LH h2
def mz (y:UInt8):Bool:=decide (65≤y.toNat) && decide (y.toNat≤90)
def rY (s:List UInt8):Bool:=decide (s.length=5) && s.all fun y=>ej y || mz y
theorem FZ {h:ah} (s:List UInt8):ag Tryz.prog 289 ⟨[St s]⟩ h fun u h'=>u=.bool (rY s)∧Ext No h h':=by
 unfold rY
 by_cases hl:s.length=5
 · rw [decide_eq_true hl,Bool.true_and]
   refine calls [(0,_)] Tryz.func289 rfl Tryz.ntmps289 rfl ⟨rfl,trivial⟩ ?_
   refine G2 ?_;refine G3 ?_
   refine aJ 1 2 ?_ TT.mk
   all_goals (refine ax 2 ?_)
   refine WC.skip ?_;refine Gn ?_;refine Gs [(0,_)] ?_;refine G3 ?_;refine WL.ai (jS Tryz.underlying9 Tryz.underlying23 Tryz.underlying5 rfl) rfl rfl rfl ?_
   rintro _ h1 ⟨b1,c1,rfl,bO,qT,ay⟩
   refine Go ?_;refine WC.block ?_;refine WC.bC (X:=Nat) (fun x=>([(13,In (x:Int))]:Fr)) [(11,_),(12,_)] (fun x h'=>h'=h1∧x≤s.length∧(s.take x).all (fun y=>ej y || mz y)=true) (fun x=>s.length - x) (0) ⟨rfl,rfl,rfl,trivial⟩ (by exact ⟨rfl,Nat.zero_le _,rfl⟩) ?_
   rintro j hh ⟨hz,hj,ha⟩
   subst hz
   refine WC.sub [(13,_),(11,_),(12,_)] ⟨rfl,rfl,rfl,trivial⟩ ?_;refine G2 ?_;refine WC.seq ?_
   refine aJ 3 4 (Hb.mk fun hb=>?_) (Hb.mk fun hb=>?_)
   all_goals try (
   refine ax 3 ?_
   refine WC.skip ?_
   skip)
   all_goals try (
   refine ax 4 ?_
   refine WC.exit ?_
   repeat' (with_reducible first | refine aU ?_ | refine aG rfl ?_ | refine aI ?_ | refine aL ?_ | refine aS ?_)
   refine Br.out (i:=1000) ?_
   skip)
   all_goals (refine Gn ?_;first | refine Br.ab ?_ | refine WC.seq ?_)
   all_goals (first | refine Br.ab ?_ | refine WC.block ?_)
   all_goals (first | refine Br.ab ?_ | refine WC.sr ?_)
   all_goals (
    first
      | (refine Br.ab ?_)
      | (obtain ⟨y,hy⟩:∃ y,s[j]?=some y:=⟨_,List.getElem?_eq_getElem (by omega)⟩
         obtain ⟨bL,oL,hA,hbL,hat⟩:=Rd.at_ qT (by omega)
         simp only [Option.some.injEq,Addr.mk.injEq] at hA
         obtain ⟨rfl,rfl,_⟩:=hA
         have ga:=hat.get (p:=0+j * 1) j (show (bu s)[j]?=some (By y) by simp [bu,hy]) (by omega)
         have hyl:=y.toNat_lt
         rcases (show (ej y || mz y)=true∧48≤(y.toNat:Int)∧(y.toNat:Int)≤57∨(ej y || mz y)=true∧65≤(y.toNat:Int)∧(y.toNat:Int)≤90∨(ej y || mz y)=false∧(y.toNat:Int) < 48∨(ej y || mz y)=false∧57 < (y.toNat:Int)∧(y.toNat:Int) < 65∨(ej y || mz y)=false∧90 < (y.toNat:Int) by
            by_cases e1:48≤y.toNat <;> by_cases e2:y.toNat≤57 <;> by_cases e3:65≤y.toNat <;> by_cases e4:y.toNat≤90 <;> first | omega | exact .inl ⟨by simp [ej,mz,e1,e2],by omega,by omega⟩ | exact .inr (.inl ⟨by simp [ej,mz,e3,e4],by omega,by omega⟩) | exact .inr (.inr (.inl ⟨by simp [ej,mz,e1,e3],by omega⟩)) | exact .inr (.inr (.inr (.inl ⟨by simp [ej,mz,e2,e3],by omega,by omega⟩))) | exact .inr (.inr (.inr (.inr ⟨by simp [ej,mz,e2,e4],by omega⟩)))) with ⟨hd,i1,i2⟩ | ⟨hd,i1,i2⟩ | ⟨hd,i1⟩ | ⟨hd,i1,i2⟩ | ⟨hd,i1⟩))
   all_goals (first | refine Br.ab ?_ | (refine WL.step (aF Tryz.underlying23 Tryz.sizeOf5 rfl rfl rfl (by omega) (by first | rfl | assumption)) rfl rfl rfl ?_))
   all_goals (first | refine Br.ab ?_ | (refine WL.ld rfl (by first | exact ga | assumption) rfl rfl rfl ?_))
   all_goals (refine Go ?_;first | refine Br.ab ?_ | refine WC.sr ?_)
   all_goals (refine Go ?_;first | refine Br.ab ?_ | refine bG 19 ?_ TT.mk)
   all_goals (refine Gg ?_;refine Go ?_;first | refine Br.ab ?_ | refine bG 25 ?_ TT.mk)
   all_goals (refine Gg ?_;refine Go ?_;first | refine Br.ab ?_ | refine Gs [(5,_),(6,_),(11,_),(12,_),(13,_)] ?_)
   all_goals (first | refine Br.ab ?_ | refine WC.sr ?_)
   all_goals (refine Go ?_;first | refine Br.ab ?_ | refine bG 31 ?_ TT.mk)
   all_goals (refine Gg ?_;refine Go ?_;first | refine Br.ab ?_ | refine Gs [(11,_),(12,_),(13,_),(34,_)] ?_)
   all_goals (first | refine Br.ab ?_ | refine aJ 5 6 ?_ TT.mk)
   all_goals try (
   refine ax 5 ?_
   all_goals (refine G2 ?_;refine Gs [(2,_)] ?_;refine Gt ?_)
   all_goals (
    first
     | (refine ⟨congrArg Value.bool ?_,ay⟩;rw [List.take_of_length_le (by omega)] at ha;exact ha.symm)
     | (refine ⟨congrArg Value.bool ?_,ay⟩;exact (List.all_eq_false.2 ⟨y,List.mem_of_getElem? hy,by rw [hd];decide⟩).symm))
   skip)
   all_goals try (
   refine ax 6 ?_
   all_goals (refine WC.skip ?_)
   skip)
   all_goals (refine Gn ?_;first | refine Br.ab ?_ | refine WC.region ?_)
   all_goals (refine Go ?_;first | refine Br.ab ?_ | (exact ⟨j+1,⟨rfl,rfl,rfl,trivial⟩,(by exact ⟨rfl,by omega,by rw [List.take_add_one,hy];simp only [Option.toList_some,List.all_append,ha,List.all_cons,hd,List.all_nil,Bool.and_self]⟩),(by omega)⟩))
   try (refine Br.mk (i:=1000) ?_)
   refine Gn ?_;refine Gs [] ?_;refine G2 ?_;refine Gt ?_
   first
    | (refine ⟨congrArg Value.bool ?_,ay⟩;rw [List.take_of_length_le (by omega)] at ha;exact ha.symm)
    | (refine ⟨congrArg Value.bool ?_,ay⟩;exact (List.all_eq_false.2 ⟨y,List.mem_of_getElem? hy,by rw [hd];decide⟩).symm)
 · rw [decide_eq_false hl,Bool.false_and]
   have hl':(s.length:Int) ≠ 5:=by omega
   refine calls [(0,_)] Tryz.func289 rfl Tryz.ntmps289 rfl ⟨rfl,trivial⟩ ?_
   refine G2 ?_;refine G3 ?_
   refine aJ 1 2 ?_ TT.mk
   all_goals (refine ax 1 ?_)
   refine G2 ?_;refine Gs [(2,_)] ?_;refine Gt ?_
   exact ⟨rfl,.refl _ _⟩
structure gi where
 k:Int
 n:Int
 c:List UInt8
def gi.cells (v:gi):List Value:=my v.k v.n v.c
def rZ (a b:List UInt8):gi:=if a=([115,101,108,101,99,116]:List UInt8) then (match ny b 99 with | some n=>⟨5,n,[]⟩ | none=>⟨0,0,[]⟩) else if a=([102,97,105,108]:List UInt8) then (if rY b=true then ⟨8,0,b⟩ else ⟨0,0,[]⟩) else ⟨0,0,[]⟩
def bj (t:List UInt8):gi:=match ja (iE t) with
 | some k=>⟨k,0,[]⟩
 | none=>if (lH (iE t)).2.2=true then rZ (lH (iE t)).1 (lH (iE t)).2.1 else ⟨0,0,[]⟩
theorem F0 {h:ah} (a b:List UInt8):ag Tryz.prog 254 ⟨[St a,St b]⟩ h fun u h'=>u=.agg ⟨(rZ a b).cells⟩∧Ext No h h':=by
 have kp:=fun h'=>zQ (h:=h') b 99
 have kc:=fun h'=>FZ (h:=h') b
 unfold rZ gi.cells my
 by_cases h1:a=([115,101,108,101,99,116]:List UInt8)
 · subst h1
   rw [if_pos rfl]
   cases hp:ny b 99
   all_goals
     rw [hp] at kp
     unfold zP at kp
     refine calls [(0,_),(1,_)] Tryz.func254 rfl Tryz.ntmps254 rfl ⟨rfl,rfl,trivial⟩ ?_
     all_goals (refine WC.sr ?_;refine WL.ai (av (fun w=>Tryz.zeroValue278 w)) rfl rfl rfl ?_;rintro _ h1 ⟨b1,rfl,bO,aQ,ay⟩;refine Gn ?_;refine G3 ?_;refine WC.block ?_;refine G2 ?_;refine aJ 1 2 ?_ TT.mk;refine ax 1 ?_;refine G2 ?_;refine WL.call (vs:=[_,_]) rfl Tryz.call288 rfl (kp _) rfl rfl rfl ?_;rintro _ hq ⟨rfl,jo⟩;subst jo;refine Go ?_;refine Gs [(4,_),(5,_),(6,_)] ?_;refine G2 ?_;refine aJ 3 4 ?_ TT.mk)
     all_goals try (
     refine ax 3 ?_
     all_goals (refine G2 ?_;refine WL.step (aD (vs:=[_,_]) (cs:=[_,_,_]) (fun | [a0,a1]=>[a0,a1,(St [])] | _=>[]) rfl rfl (by kernel_rfl)) rfl rfl rfl ?_;refine WL.az (al Tryz.sizeOf278 rfl rfl rfl aQ rfl (by simp [Value.oneCell'])) rfl rfl ?_;rintro _ h3 ⟨bn,aP⟩;refine Gn ?_;refine Gs [(4,_)] ?_;refine WC.ret ?_;repeat' (with_reducible first | refine ba ?_ | refine aV ?_))
     all_goals (refine bY _ ⟨⟨_,rfl,bB Tryz.isAgg278 Tryz.sizeOf278 (by assumption) rfl⟩,trivial⟩ ?_;exact ⟨rfl,ay.trans' aP (fun q hq e=>by omega)⟩)
     skip)
     all_goals (refine ax 4 ?_;refine WC.skip ?_;refine Gn ?_;refine WC.sr ?_;refine WL.step (aD (vs:=[]) (cs:=[_,_,_]) (fun | []=>[(.int .i64 0),(.int .i64 0),(St [])] | _=>[]) rfl rfl (by kernel_rfl)) rfl rfl rfl ?_;refine WL.az (al Tryz.sizeOf278 rfl rfl rfl aQ rfl (by simp [Value.oneCell'])) rfl rfl ?_;rintro _ h3 ⟨bn,aP⟩;refine Gn ?_;refine WC.ret ?_;repeat' (with_reducible first | refine ba ?_ | refine aV ?_))
     all_goals (refine bY _ ⟨⟨_,rfl,bB Tryz.isAgg278 Tryz.sizeOf278 (by assumption) rfl⟩,trivial⟩ ?_;exact ⟨rfl,ay.trans' aP (fun q hq e=>by omega)⟩)
 · rw [if_neg h1]
   by_cases h2:a=([102,97,105,108]:List UInt8)
   · subst h2
     rw [if_pos rfl]
     cases hp:rY b
     all_goals
       rw [hp] at kc
       refine calls [(0,_),(1,_)] Tryz.func254 rfl Tryz.ntmps254 rfl ⟨rfl,rfl,trivial⟩ ?_
       all_goals (refine WC.sr ?_;refine WL.ai (av (fun w=>Tryz.zeroValue278 w)) rfl rfl rfl ?_;rintro _ h1 ⟨b1,rfl,bO,aQ,ay⟩;refine Gn ?_;refine G3 ?_;refine WC.block ?_;refine G2 ?_;refine aJ 1 2 ?_ TT.mk;refine ax 2 ?_;refine G2 ?_;refine Gs [(1,_),(4,_),(18,_)] ?_;refine aJ 5 6 ?_ TT.mk;refine ax 5 ?_;refine G2 ?_;refine WL.call (vs:=[_]) rfl Tryz.call289 rfl (kc _) rfl rfl rfl ?_;rintro _ h2 ⟨rfl,aH⟩;have bH:=aH.obj aQ aO;have X2:=ay.trans aH;refine Gn ?_;refine aJ 7 8 ?_ TT.mk)
       all_goals try (
       refine ax 7 ?_
       all_goals (refine G2 ?_;refine WL.step (aD (vs:=[_,_]) (cs:=[_,_,_]) (fun | [a0,a2]=>[a0,(.int .i64 0),a2] | _=>[]) rfl rfl (by kernel_rfl)) rfl rfl rfl ?_;refine WL.az (al Tryz.sizeOf278 rfl rfl rfl bH rfl (by simp [Value.oneCell'])) rfl rfl ?_;rintro _ h3 ⟨bn,aP⟩;refine Gn ?_;refine Gs [(4,_)] ?_;refine WC.ret ?_;repeat' (with_reducible first | refine ba ?_ | refine aV ?_))
       all_goals (refine bY _ ⟨⟨_,rfl,bB Tryz.isAgg278 Tryz.sizeOf278 (by assumption) rfl⟩,trivial⟩ ?_;exact ⟨rfl,X2.trans' aP (fun q hq e=>by omega)⟩)
       skip)
       all_goals (refine ax 8 ?_;refine WC.skip ?_;refine Gn ?_;refine WC.sr ?_;refine WL.step (aD (vs:=[]) (cs:=[_,_,_]) (fun | []=>[(.int .i64 0),(.int .i64 0),(St [])] | _=>[]) rfl rfl (by kernel_rfl)) rfl rfl rfl ?_;refine WL.az (al Tryz.sizeOf278 rfl rfl rfl bH rfl (by simp [Value.oneCell'])) rfl rfl ?_;rintro _ h3 ⟨bn,aP⟩;refine Gn ?_;refine WC.ret ?_;repeat' (with_reducible first | refine ba ?_ | refine aV ?_))
       all_goals (refine bY _ ⟨⟨_,rfl,bB Tryz.isAgg278 Tryz.sizeOf278 (by assumption) rfl⟩,trivial⟩ ?_;exact ⟨rfl,X2.trans' aP (fun q hq e=>by omega)⟩)
   · rw [if_neg h2]
     refine calls [(0,_),(1,_)] Tryz.func254 rfl Tryz.ntmps254 rfl ⟨rfl,rfl,trivial⟩ ?_
     refine WC.sr ?_;refine WL.ai (av (fun w=>Tryz.zeroValue278 w)) rfl rfl rfl ?_
     rintro _ h1 ⟨b1,rfl,bO,aQ,ay⟩
     refine Gn ?_;refine G3 ?_;refine WC.block ?_;refine G2 ?_
     refine aJ 1 2 ?_ TT.mk
     all_goals (refine ax 2 ?_)
     refine G2 ?_;refine Gs [(1,_),(4,_),(18,_)] ?_
     refine aJ 5 6 ?_ TT.mk
     all_goals (refine ax 6 ?_)
     refine WC.skip ?_;refine Gn ?_;refine WC.sr ?_;refine WL.step (aD (vs:=[]) (cs:=[_,_,_]) (fun | []=>[(.int .i64 0),(.int .i64 0),(St [])] | _=>[]) rfl rfl (by kernel_rfl)) rfl rfl rfl ?_
     refine WL.az (al Tryz.sizeOf278 rfl rfl rfl aQ rfl (by simp [Value.oneCell'])) rfl rfl ?_
     rintro _ h3 ⟨bn,aP⟩
     refine Gn ?_;refine WC.ret ?_
     repeat' (with_reducible first | refine ba ?_ | refine aV ?_)
     refine bY _ ⟨⟨_,rfl,bB Tryz.isAgg278 Tryz.sizeOf278 (by assumption) rfl⟩,trivial⟩ ?_
     exact ⟨rfl,ay.trans' aP (fun q hq e=>by omega)⟩
theorem oK {h:ah} (t:List UInt8) (hm:t.length≤1000000):ag Tryz.prog 214 ⟨[St t]⟩ h fun u h'=>u=.agg ⟨(bj t).cells⟩∧Ext No h h':=by
 have kt:=fun h'=>FX (h:=h') t hm
 have kw:=fun h'=>FY (h:=h') (iE t)
 have hl:(iE t).length≤1000000:=Nat.le_trans (Nat.le_trans (CW _) (CX _)) hm
 have kc:=fun h'=>Ih (h:=h') (iE t) hl
 have kp:=fun h'=>F0 (h:=h') (lH (iE t)).1 (lH (iE t)).2.1
 unfold bj
 cases hw:ja (iE t)
 · rw [hw] at kw
   dsimp only [Option.getD_none,Option.isSome_none] at kw
   obtain ⟨bc,hc⟩:∃ b,(lH (iE t)).2.2=b:=⟨_,rfl⟩
   rw [hc] at kc
   dsimp only
   rw [hc]
   unfold gi.cells my at *
   cases bc
   all_goals
     refine calls [(0,_)] Tryz.func214 rfl Tryz.ntmps214 rfl ⟨rfl,trivial⟩ ?_
     all_goals (refine WC.sr ?_;refine WL.ai (av (fun w=>Tryz.zeroValue278 w)) rfl rfl rfl ?_;rintro _ h1 ⟨b1,rfl,bO,aQ,ay⟩;refine Gn ?_;refine G2 ?_;refine WL.call (vs:=[_,_]) rfl Tryz.call251 rfl (kt _) rfl rfl rfl ?_;rintro _ hq ⟨rfl,jo⟩;subst jo;refine Go ?_;refine G3 ?_;refine WL.call (vs:=[_]) rfl Tryz.call252 rfl (kw _) rfl rfl rfl ?_;rintro _ hq ⟨rfl,jo⟩;subst jo;refine Go ?_;refine Gs [(2,_),(3,_),(4,_),(5,_)] ?_;refine G2 ?_;refine aJ 1 2 ?_ TT.mk;refine ax 2 ?_;refine WC.skip ?_;refine Gn ?_;refine G2 ?_;refine WL.call (vs:=[_,_]) rfl Tryz.call253 rfl (kc _) rfl rfl rfl ?_;rintro _ hq ⟨rfl,jo⟩;subst jo;refine Go ?_;refine Gs [(2,_),(6,_),(7,_),(8,_)] ?_;refine G3 ?_;refine aJ 3 4 ?_ TT.mk)
     all_goals try (
     refine ax 3 ?_
     all_goals (refine WC.sr ?_;refine WL.step (aD (vs:=[]) (cs:=[_,_,_]) (fun | []=>[(.int .i64 0),(.int .i64 0),(St [])] | _=>[]) rfl rfl (by kernel_rfl)) rfl rfl rfl ?_;refine WL.az (al Tryz.sizeOf278 rfl rfl rfl aQ rfl (by simp [Value.oneCell'])) rfl rfl ?_;rintro _ h3 ⟨bn,aP⟩;have X3:=ay.trans' aP (fun q hq e=>by omega);refine Gn ?_;refine Gs [(2,_)] ?_;refine WC.ret ?_;repeat' (with_reducible first | refine ba ?_ | refine aV ?_))
     all_goals (refine bY _ ⟨⟨_,rfl,bB Tryz.isAgg278 Tryz.sizeOf278 (by assumption) rfl⟩,trivial⟩ ?_;exact ⟨rfl,X3⟩)
     skip)
     all_goals (refine ax 4 ?_;refine WC.skip ?_;refine Gn ?_;refine G2 ?_;refine WL.call (vs:=[_,_]) rfl Tryz.call254 rfl (kp _) rfl rfl rfl ?_;rintro _ h2 ⟨rfl,aH⟩;have bH:=aH.obj aQ aO;refine WL.az (al Tryz.sizeOf278 rfl rfl rfl bH rfl (by simp [Value.oneCell'])) rfl rfl ?_;rintro _ h3 ⟨bn,aP⟩;have X3:=(ay.trans aH).trans' aP (fun q hq e=>by omega);refine Gn ?_;refine Gs [(2,_)] ?_;refine WC.ret ?_;repeat' (with_reducible first | refine ba ?_ | refine aV ?_))
     all_goals (refine bY _ ⟨⟨_,rfl,bB Tryz.isAgg278 Tryz.sizeOf278 (by assumption) rfl⟩,trivial⟩ ?_;exact ⟨rfl,X3⟩)
 · rw [hw] at kw
   unfold gi.cells my
   refine calls [(0,_)] Tryz.func214 rfl Tryz.ntmps214 rfl ⟨rfl,trivial⟩ ?_
   refine WC.sr ?_;refine WL.ai (av (fun w=>Tryz.zeroValue278 w)) rfl rfl rfl ?_
   rintro _ h1 ⟨b1,rfl,bO,aQ,ay⟩
   refine Gn ?_;refine G2 ?_;refine WL.call (vs:=[_,_]) rfl Tryz.call251 rfl (kt _) rfl rfl rfl ?_
   rintro _ hq ⟨rfl,jo⟩
   subst jo
   refine Go ?_;refine G3 ?_;refine WL.call (vs:=[_]) rfl Tryz.call252 rfl (kw _) rfl rfl rfl ?_
   rintro _ hq ⟨rfl,jo⟩
   subst jo
   refine Go ?_;refine Gs [(2,_),(3,_),(4,_),(5,_)] ?_;refine G2 ?_
   refine aJ 1 2 ?_ TT.mk
   all_goals (refine ax 1 ?_)
   refine G2 ?_;refine WL.step (aD (vs:=[_]) (cs:=[_,_,_]) (fun | [a0]=>[a0,(.int .i64 0),(St [])] | _=>[]) rfl rfl (by kernel_rfl)) rfl rfl rfl ?_
   refine WL.az (al Tryz.sizeOf278 rfl rfl rfl aQ rfl (by simp [Value.oneCell'])) rfl rfl ?_
   rintro _ h3 ⟨bn,aP⟩
   refine Gn ?_;refine Gs [(2,_)] ?_;refine WC.ret ?_
   repeat' (with_reducible first | refine ba ?_ | refine aV ?_)
   refine bY _ ⟨⟨_,rfl,bB Tryz.isAgg278 Tryz.sizeOf278 (by assumption) rfl⟩,trivial⟩ ?_
   exact ⟨rfl,ay.trans' aP (fun q hq e=>by omega)⟩
theorem lI {h:ah} {be me:Nat} {cnt:Int} (hb:h[be]?=some (.cells ⟨[.map (some me),In cnt]⟩ 104 (0,0))):ag Tryz.prog 258 ⟨[.pointer (some ⟨be,0,none⟩)]⟩ h fun u h'=>u=.bool true∧h'=h:=by
 refine calls [(0,_)] Tryz.func258 rfl Tryz.ntmps258 rfl ⟨rfl,trivial⟩ ?_
 refine G2 ?_;refine G2 ?_;refine WL.step (dD Tryz.underlying46 rfl rfl) rfl rfl rfl (Go ?_)
 refine bG 5 ?_ TT.mk
 refine Gg ?_;refine WL.step (ae rfl) rfl rfl rfl ?_;refine Gg ?_;refine Ld ?_;refine WL.step (yg Tryz.underlying97 rfl rfl) rfl rfl rfl (Go ?_);refine Gs [(2,_)] ?_;refine Gt ?_
 exact ⟨rfl,rfl⟩
section
variable {h:ah} {bs ms bp mp be me:Nat} {st:Int} {sk ov:Bool} {cnt:Int} {L P R:List (List UInt8 × Value)}
theorem iq (c:Int):ag Tryz.prog 207 ⟨[.int .u8 c]⟩ h fun u h'=>∃ q,u=.slice (some ⟨q,0,none⟩) 1 1∧h'[q]?=some (.cells ⟨[.int .u8 c,.int .u8 0,St [],St [],St [],In 0,In 0,.slice none 0 0,.slice none 0 0,.slice none 0 0,.slice none 0 0]⟩ 140 (0,0))∧h.size≤q∧Ext No h h':=by
 refine calls [(0,_)] Tryz.func207 rfl Tryz.ntmps207 rfl ⟨rfl,trivial⟩ ?_
 refine G2 ?_;refine G2 ?_;refine WL.step (aD (vs:=[_]) (cs:=[_,_,_,_,_,_,_,_,_,_,_]) (fun | [a0]=>[a0,(.int .u8 0),(St []),(St []),(St []),(.int .i64 0),(.int .i64 0),(.slice none 0 0),(.slice none 0 0),(.slice none 0 0),(.slice none 0 0)] | _=>[]) rfl rfl (by kernel_rfl)) rfl rfl rfl ?_
 refine WL.ai (aw (vs:=[_]) (cs:=[_,_,_,_,_,_,_,_,_,_,_]) (fun | [.agg ⟨[a0,a1,a2,a3,a4,a5,a6,a7,a8,a9,gd]⟩]=>[a0,a1,a2,a3,a4,a5,a6,a7,a8,a9,gd] | _=>[]) Tryz.underlying80 rfl rfl (by kernel_rfl)) rfl rfl rfl ?_
 rintro _ h1 ⟨b1,rfl,bO,aQ,ay⟩
 refine Go ?_;refine Gs [(2,_)] ?_;refine Gt ?_
 exact ⟨b1,rfl,aQ,bO,ay⟩
abbrev nS:Value:=.slice none 0 0
end
section
variable {h h':ah} {bs ms bp mp be me:Nat} {st st':Int} {sk ov:Bool} {cnt:Int} {L P P' R:List (List UInt8 × Value)} {S:Nat→Prop}
theorem eo {es:List (List UInt8 × Value)} {m q:Nat} {cs:Array Value} {TT:TypeId} (k:Mp .string St h m es) (hq:h[q]?=some (.cells cs TT (0,0))):¬ q=m:=fun e=>by
 subst e
 obtain ⟨_,_,z,_⟩:=k
 rw [hq] at z
 cases z
theorem Se.Ik (k:Se h bs ms bp mp be me st sk ov cnt L P R) {q:Nat} {cs:Array Value} (hq:h[q]?=some (.cells cs 273 (0,0))) (x:Ext (fun z=>z=q) h h'):Se h' bs ms bp mp be me st sk ov cnt L P R:=by
 have o:∀ {z:Nat} {ds:Array Value} {TT:TypeId},TT ≠ 273→h[z]?=some (.cells ds TT (0,0))→¬ z=q:=fun hT hz e=>by
   subst e
   rw [hq] at hz
   simp only [Option.some.injEq,Obj.cells.injEq] at hz
   exact hT hz.2.1.symm
 exact ⟨x.obj k.bq (o (by decide) k.bq),k.stm.ext x (fun e=>eo k.stm hq e.symm),x.obj k.pb (o (by decide) k.pb),k.pm.ext x (fun e=>eo k.pm hq e.symm),x.obj k.eb (o (by decide) k.eb),k.em.ext x (fun e=>eo k.em hq e.symm),k.ne⟩
theorem Se.jL (k:Se h bs ms bp mp be me st sk ov cnt L P R) {sk' ov':Bool} (x:Ext (fun z=>z=bs) h h') (hb:h'[bs]?=some (.cells ⟨[.map (some ms),.pointer (some ⟨bp,0,none⟩),.pointer (some ⟨be,0,none⟩),.int .u8 st',.bool sk',.bool ov']⟩ 153 (0,0))):Se h' bs ms bp mp be me st' sk' ov' cnt L P R:=by
 have hq:=k.bq
 have o:∀ {z:Nat} {ds:Array Value} {TT:TypeId},TT ≠ 153→h[z]?=some (.cells ds TT (0,0))→¬ z=bs:=fun hT hz e=>by
   subst e
   rw [hq] at hz
   simp only [Option.some.injEq,Obj.cells.injEq] at hz
   exact hT hz.2.1.symm
 exact ⟨hb,k.stm.ext x (fun e=>eo k.stm hq e.symm),x.obj k.pb (o (by decide) k.pb),k.pm.ext x (fun e=>eo k.pm hq e.symm),x.obj k.eb (o (by decide) k.eb),k.em.ext x (fun e=>eo k.em hq e.symm),k.ne⟩
def pB:List UInt8 × List Int × List (Bool × List UInt8) × List (List (Bool × List UInt8)) × Bool × Bool:=(qd,[],[],[],false,false)
theorem Il {b m p:Nat} {es:List (List UInt8 × Value)} {name:List UInt8} {d:PD} (r:Pe h b m es p name d) :
   ag Tryz.prog 249 ⟨[.pointer (some ⟨b,0,none⟩),St name]⟩ h fun u h'=>(∃ d':PD,u=.tuple ⟨[.agg ⟨d'.cells⟩,.bool true]⟩∧d'.ok h'∧d'.pl=d.pl∧∀ k,d'.F k→h.size≤k)∧Ext No h h':=by
 refine calls [(0,_),(1,_)] Tryz.func249 rfl Tryz.ntmps249 rfl ⟨rfl,rfl,trivial⟩ ?_
 refine WC.sr ?_;refine WL.ai (av (fun w=>Tryz.zeroValue273 w)) rfl rfl rfl ?_
 rintro _ h1 ⟨b1,rfl,bO,aQ,ay⟩
 have r1:=r.aq ay
 refine Go ?_;refine G2 ?_;refine WL.call (vs:=[_,_]) rfl Tryz.call256 rfl (tR r1) rfl rfl rfl ?_
 rintro _ hz ⟨rfl,_⟩
 subst hz
 refine Go ?_;refine Gs [(4,_),(6,_),(7,_)] ?_;refine G3 ?_
 refine aJ 1 2 ?_ TT.mk
 all_goals (refine ax 2 ?_)
 refine WC.skip ?_;refine Gn ?_;refine G2 ?_;refine WL.step (ae rfl) rfl rfl rfl ?_;refine WL.step (an Tryz.isAgg273 Tryz.sizeOf273 rfl rfl (by exact At.au r1.bq)) rfl rfl rfl ?_
 refine WL.call (vs:=[_]) rfl Tryz.call248 rfl (rO d r1.ok) rfl rfl rfl ?_
 rintro _ h2 ⟨d2,rfl,iN,kP,aH,eN⟩
 refine WL.az (al Tryz.sizeOf273 rfl rfl rfl (aH.obj aQ aO) rfl (fg iN)) rfl rfl ?_
 rintro _ h3 ⟨bn,aP⟩
 refine Go ?_;refine Gs [(4,_),(5,_)] ?_;refine WC.ret ?_
 repeat' (with_reducible first | refine ba ?_ | refine aV ?_)
 refine dY _ _ ⟨⟨_,rfl,bB Tryz.isAgg273 Tryz.sizeOf273 (by assumption) rfl⟩,rfl,trivial⟩ ?_
 exact ⟨⟨d2,rfl,iN.ext aP (fun k hk e=>by have:=eN k hk;have:=aj aQ;omega),kP,fun k hk=>by have:=eN k hk;have:=ay.size;omega⟩,(ay.trans aH).trans' aP (fun k hk e=>by omega)⟩
end
def cz (v:gi):Bool:=decide (v.k=3∨v.k=4)
def gx (v:gi):Bool:=decide (v.k=5∨v.k=6∨v.k=7)
theorem mO {h:ah} (v:gi):ag Tryz.prog 265 ⟨[.agg ⟨v.cells⟩]⟩ h fun u h'=>u=.bool (cz v)∧Ext No h h':=FT v.k v.n v.c
theorem kS {h:ah} (v:gi):ag Tryz.prog 215 ⟨[.agg ⟨v.cells⟩]⟩ h fun u h'=>u=.bool (gx v)∧Ext No h h':=CV v.k v.n v.c
def jb (st:Int):Prop:=st=73∨st=84∨st=69
theorem vH {h:ah} {st:Int} (hs:jb st):ag Tryz.prog 227 ⟨[.int .u8 st]⟩ h fun u h'=>u=.int .u8 st∧h'=h:=by
 have kr:ag Tryz.prog 267 ⟨[.int .u8 st]⟩ h fun u h'=>u=.bool true∧h'=h:=by
   rcases hs with rfl | rfl | rfl
   all_goals
     refine calls [(0,_)] Tryz.func267 rfl Tryz.ntmps267 rfl ⟨rfl,trivial⟩ ?_
     all_goals (refine G2 ?_;refine G3 ?_;refine WC.block ?_;refine G3 ?_;refine aJ 1 2 ?_ TT.mk)
     all_goals try (
     refine ax 1 ?_
     all_goals (refine WC.skip ?_)
     skip)
     all_goals try (
     refine ax 2 ?_
     all_goals (refine G2 ?_;refine Gs [(3,_),(4,_)] ?_;refine aJ 3 4 ?_ TT.mk)
     all_goals try (
     refine ax 3 ?_
     all_goals (refine WC.skip ?_)
     skip)
     all_goals try (
     refine ax 4 ?_
     all_goals (refine WC.region (Go ?_))
     skip)
     skip)
     all_goals (refine Gn ?_;refine aJ 5 6 ?_ TT.mk;refine ax 5 ?_;refine G2 ?_;refine Gt ?_;exact ⟨rfl,rfl⟩)
 refine calls [(0,_)] Tryz.func227 rfl Tryz.ntmps227 rfl ⟨rfl,trivial⟩ ?_
 refine G2 ?_;refine G3 ?_;refine WL.call (vs:=[_]) rfl Tryz.call267 rfl (kr) rfl rfl rfl ?_
 rintro _ hz ⟨rfl,_⟩
 subst hz
 refine Go ?_
 refine aJ 1 2 ?_ TT.mk
 all_goals (refine ax 2 ?_)
 refine WC.skip ?_;refine Gn ?_;refine Gs [(0,_)] ?_;refine G2 ?_;refine Gt ?_
 exact ⟨rfl,rfl⟩
def fp (st:Int):Int:=if st=84 then 69 else st
theorem nz {st:Int} (hs:jb st):jb (fp st):=by
 rcases hs with rfl | rfl | rfl
 · exact .inl rfl
 · exact .inr (.inr rfl)
 · exact .inr (.inr rfl)
theorem zR {h:ah} {st:Int} (hs:jb st):ag Tryz.prog 156 ⟨[.int .u8 st]⟩ h fun u h'=>u=.int .u8 (fp st)∧h'=h:=by
 have kh:=fun h'=>vH (h:=h') hs
 rcases hs with rfl | rfl | rfl
 all_goals
   refine calls [(0,_)] Tryz.func156 rfl Tryz.ntmps156 rfl ⟨rfl,trivial⟩ ?_
   all_goals (refine G2 ?_;refine G3 ?_;refine WL.call (vs:=[_]) rfl Tryz.call227 rfl (kh _) rfl rfl rfl ?_;rintro _ hz ⟨rfl,_⟩;subst hz;refine Go ?_;refine G2 ?_;refine Gs [(0,_),(6,_)] ?_;refine aJ 1 2 ?_ TT.mk)
   all_goals try (
   refine ax 1 ?_
   all_goals (refine G2 ?_;refine Gt ?_;exact ⟨rfl,rfl⟩)
   skip)
   all_goals (refine ax 2 ?_;refine WC.skip ?_;refine Gn ?_;refine G2 ?_;refine Gt ?_;exact ⟨rfl,rfl⟩)
def r5 (st:Int) (v:gi):List UInt8:=if v.k=4∨st=69 then ([82,79,76,76,66,65,67,75]:List UInt8) else ([67,79,77,77,73,84]:List UInt8)
theorem C3 {h:ah} {st:Int} (v:gi):ag Tryz.prog 296 ⟨[.int .u8 st,.agg ⟨v.cells⟩]⟩ h fun u h'=>u=St (r5 st v)∧Ext No h h':=by
 unfold gi.cells my
 rcases (show r5 st v=([82,79,76,76,66,65,67,75]:List UInt8)∧v.k=4∨r5 st v=([82,79,76,76,66,65,67,75]:List UInt8)∧v.k ≠ 4∧st=69∨r5 st v=([67,79,77,77,73,84]:List UInt8)∧v.k ≠ 4∧st ≠ 69 by
   unfold r5
   by_cases e1:v.k=4
   · exact .inl ⟨if_pos (.inl e1),e1⟩
   · by_cases e2:st=69
     · exact .inr (.inl ⟨if_pos (.inr e2),e1,e2⟩)
     · exact .inr (.inr ⟨if_neg (fun e=>e.elim e1 e2),e1,e2⟩)) with ⟨e,h1⟩ | ⟨e,h1,h2⟩ | ⟨e,h1,h2⟩
 all_goals
   refine calls [(0,_),(1,_)] Tryz.func296 rfl Tryz.ntmps296 rfl ⟨rfl,rfl,trivial⟩ ?_
   all_goals (refine WC.sr ?_;refine WL.ai (aB rfl) rfl rfl rfl ?_;rintro _ g1 ⟨b1,rfl,bO,aQ,ay⟩;refine Go ?_;refine G3 ?_;refine Ld ?_;refine Go ?_;refine bG 8 ?_ TT.mk;refine Gg ?_;refine Go ?_;refine Gs [(11,_)] ?_;refine aJ 1 2 ?_ TT.mk)
   all_goals try (
   refine ax 1 ?_
   all_goals (refine G2 ?_;refine Gt ?_;exact ⟨by rw [e],ay⟩)
   skip)
   all_goals (refine ax 2 ?_;refine WC.skip ?_;refine Gn ?_;refine G2 ?_;refine Gt ?_;exact ⟨by rw [e],ay⟩)
def fq (st:Int) (v:gi):Int × List UInt8:=if cz v=true then (73,r5 st v) else if v.k ≠ 2 then (st,[]) else (if st=73 then 84 else st,([66,69,71,73,78]:List UInt8))
theorem r6 {st:Int} (hs:jb st) (v:gi):jb (fq st v).1:=by
 unfold fq
 split
 · exact .inl rfl
 · split
   · exact hs
   · dsimp only
     split
     · exact .inr (.inl rfl)
     · exact hs
theorem zS {h:ah} {st:Int} (hs:jb st) (v:gi):ag Tryz.prog 264 ⟨[.int .u8 st,.agg ⟨v.cells⟩]⟩ h fun u h'=>u=.tuple ⟨[.int .u8 (fq st v).1,St (fq st v).2]⟩∧Ext No h h':=by
 have kh:=fun h'=>vH (h:=h') hs
 have kx:=fun h'=>mO (h:=h') v
 have ke:=fun h'=>C3 (h:=h') (st:=st) v
 unfold gi.cells my at *
 rcases (show cz v=true∧fq st v=(73,r5 st v)∨cz v=false∧v.k ≠ 2∧fq st v=(st,[])∨cz v=false∧v.k=2∧st=73∧fq st v=(84,([66,69,71,73,78]:List UInt8))∨cz v=false∧v.k=2∧st ≠ 73∧fq st v=(st,([66,69,71,73,78]:List UInt8)) by
   unfold fq
   cases e1:cz v
   · by_cases e2:v.k=2
     · by_cases e3:st=73
       · exact .inr (.inr (.inl ⟨rfl,e2,e3,by simp [e2,e3]⟩))
       · exact .inr (.inr (.inr ⟨rfl,e2,e3,by simp [e2,e3]⟩))
     · exact .inr (.inl ⟨rfl,e2,by simp [e2]⟩)
   · exact .inl ⟨rfl,by simp⟩) with ⟨e,e4⟩ | ⟨e,h1,e4⟩ | ⟨e,h1,h2,e4⟩ | ⟨e,h1,h2,e4⟩
 all_goals
   rw [e] at kx
   refine calls [(0,_),(1,_)] Tryz.func264 rfl Tryz.ntmps264 rfl ⟨rfl,rfl,trivial⟩ ?_
   all_goals (refine WC.sr ?_;refine WL.ai (aB rfl) rfl rfl rfl ?_;rintro _ g1 ⟨b1,rfl,bO,aQ,ay⟩;refine Go ?_;refine G2 ?_;refine WL.call (vs:=[_]) rfl Tryz.call227 rfl (kh _) rfl rfl rfl ?_;rintro _ hz ⟨rfl,_⟩;subst hz;refine Go ?_;refine Gs [(0,_),(3,_)] ?_;refine WC.seq ?_;refine WC.sr ?_;refine WL.step (an Tryz.isAgg278 Tryz.sizeOf278 rfl rfl (by exact At.au aQ)) rfl rfl rfl ?_;refine WL.call (vs:=[_]) rfl Tryz.call265 rfl (kx _) rfl rfl rfl ?_;rintro _ g2 ⟨rfl,aH⟩;have bH:=aH.obj aQ aO;have X2:=ay.trans aH;refine Gn ?_;refine aJ 1 2 ?_ TT.mk)
   all_goals try (
   refine ax 1 ?_
   all_goals (refine G2 ?_;refine WL.step (an Tryz.isAgg278 Tryz.sizeOf278 rfl rfl (by exact At.au bH)) rfl rfl rfl ?_;refine WL.call (vs:=[_,_]) rfl Tryz.call296 rfl (ke _) rfl rfl rfl ?_;rintro _ g3 ⟨rfl,aP⟩;have X2:=X2.trans aP;refine Go ?_;refine Gs [(4,_),(5,_)] ?_;refine Gt ?_;exact ⟨by rw [e4],X2⟩)
   skip)
   all_goals (refine ax 2 ?_;refine WC.skip ?_;refine Gn ?_;refine G3 ?_;refine WL.ld rfl (by first | exact aa bH rfl | assumption) rfl rfl rfl (Go ?_);refine Gs [(0,_),(15,_)] ?_;refine aJ 3 4 ?_ TT.mk)
   all_goals try (
   refine ax 3 ?_
   all_goals (refine G2 ?_;refine Gt ?_;exact ⟨by rw [e4],X2⟩)
   skip)
   all_goals (refine ax 4 ?_;refine WC.skip ?_;refine Gn ?_;refine G3 ?_;refine aJ 5 6 ?_ TT.mk)
   all_goals try (
   refine ax 5 ?_
   all_goals (refine WC.region (Go ?_))
   skip)
   all_goals try (
   refine ax 6 ?_
   all_goals (refine WC.skip ?_)
   skip)
   all_goals (refine Gn ?_;refine G2 ?_;refine Gs [(4,_),(5,_)] ?_;refine Gt ?_;exact ⟨by rw [e4],X2⟩)
def oo (v:gi) (oids:Nat):Int:=if v.k=6 then ((min oids 1000:Nat):Int) else if gx v=true then 1 else 0
theorem oN {h:ah} (v:gi) (oids:Nat):ag Tryz.prog 223 ⟨[.agg ⟨v.cells⟩,In (oids:Int)]⟩ h fun u h'=>u=In (oo v oids)∧Ext No h h':=by
 have kx:=fun h'=>kS (h:=h') v
 unfold gi.cells my at *
 rcases (show v.k=6∧oo v oids=((min oids 1000:Nat):Int)∨v.k ≠ 6∧gx v=true∧oo v oids=1∨v.k ≠ 6∧gx v=false∧oo v oids=0 by
   unfold oo
   by_cases e2:v.k=6
   · exact .inl ⟨e2,if_pos e2⟩
   · cases e1:gx v
     · exact .inr (.inr ⟨e2,rfl,by simp [e2]⟩)
     · exact .inr (.inl ⟨e2,rfl,by simp [e2]⟩)) with ⟨h1,e4⟩ | ⟨h1,e,e4⟩ | ⟨h1,e,e4⟩
 all_goals
   try rw [e] at kx
   refine calls [(0,_),(1,_)] Tryz.func223 rfl Tryz.ntmps223 rfl ⟨rfl,rfl,trivial⟩ ?_
   all_goals (refine WC.sr ?_;refine WL.ai (aB rfl) rfl rfl rfl ?_;rintro _ g1 ⟨b1,rfl,bO,aQ,ay⟩;refine Go ?_;refine WC.seq ?_;refine WC.block ?_;refine G2 ?_;refine Ld ?_;refine Go ?_;refine Gs [(1,_),(2,_),(5,_)] ?_;refine aJ 1 2 ?_ TT.mk)
   all_goals try (
   refine ax 1 ?_
   all_goals (refine G2 ?_;refine WL.step (pE rfl rfl) rfl rfl rfl ?_;refine WL.step (kE rfl rfl) rfl rfl rfl (Go ?_);refine Gs [(4,_)] ?_;refine Gt ?_;refine ⟨by rw [e4] <;> (congr 1;omega),ay⟩)
   skip)
   all_goals (refine ax 2 ?_;refine WC.sr ?_;refine WL.step (an Tryz.isAgg278 Tryz.sizeOf278 rfl rfl (by exact At.au aQ)) rfl rfl rfl ?_;refine WL.call (vs:=[_]) rfl Tryz.call215 rfl (kx _) rfl rfl rfl ?_;rintro _ g2 ⟨rfl,aH⟩;replace ay:=ay.trans aH;refine Go ?_;refine Gs [(12,_)] ?_;refine aJ 3 4 ?_ TT.mk)
   all_goals try (
   refine ax 3 ?_
   all_goals (refine G2 ?_;refine Gt ?_;refine ⟨by rw [e4] <;> (congr 1;omega),ay⟩)
   skip)
   all_goals (refine ax 4 ?_;refine WC.skip ?_;refine Gn ?_;refine G2 ?_;refine Gt ?_;refine ⟨by rw [e4] <;> (congr 1;omega),ay⟩)
section
variable {κ α:Type} [DecidableEq κ]
def bJ (L:List (κ × α)) (n:κ):Option α:=(L.find? fun p=>decide (p.1=n)).map (·.2)
def cj (L:List (κ × α)) (n:κ):List (κ × α):=L.filter fun p=>decide (p.1 ≠ n)
theorem fG (p:κ × α) (L:List (κ × α)) (n:κ):bJ (p :: L) n=if p.1=n then some p.2 else bJ L n:=by
 unfold bJ
 rw [List.find?_cons]
 by_cases h:p.1=n <;> simp [h]
theorem ca {L:List (κ × α)} {n:κ} {v:α} (h:bJ L n=some v):(n,v)∈L:=by
 unfold bJ at h
 obtain ⟨p,hp,rfl⟩:=Option.map_eq_some_iff.1 h
 have h1:=List.find?_some hp
 simp at h1
 rw [← h1]
 exact List.mem_of_find?_eq_some hp
theorem mP {L:List (κ × α)} {n:κ} (h:bJ L n=none):∀ p∈L,p.1 ≠ n:=by
 unfold bJ at h
 rw [Option.map_eq_none_iff,List.find?_eq_none] at h
 exact fun p hp e=>h p hp (by simp [e])
theorem xl {L:List (κ × α)} {n:κ} (h:∀ p∈L,p.1 ≠ n):bJ L n=none:=by
 rcases hg:bJ L n with _ | v
 · rfl
 · exact absurd rfl (h _ (ca hg))
theorem mQ {L:List (κ × α)} (hn:(L.map (·.1)).Nodup) {n:κ} {v:α} (h:(n,v)∈L):bJ L n=some v:=by
 induction L with
 | nil=>cases h
 | cons a L ih =>
   rw [fG]
   simp only [List.map_cons,List.nodup_cons,List.mem_map,not_exists,not_and] at hn
   rcases List.mem_cons.1 h with rfl | h
   · rw [if_pos rfl]
   · rw [if_neg (fun e=>hn.1 (n,v) h e.symm)]
     exact ih hn.2 h
theorem gQ {L:List (κ × α)} {n:κ}:(bJ L n).isSome=true ↔ n∈L.map (·.1):=by
 constructor
 · intro h
   obtain ⟨v,hv⟩:=Option.isSome_iff_exists.1 h
   exact List.mem_map.2 ⟨_,ca hv,rfl⟩
 · intro h
   obtain ⟨p,hp,rfl⟩:=List.mem_map.1 h
   rcases hg:bJ L p.1 with _ | v
   · exact absurd rfl (mP hg p hp)
   · rfl
def fh (f:α→Value) (E:List (κ × α)):List (κ × Value):=E.map fun p=>(p.1,f p.2)
theorem cS (f:α→Value) (E:List (κ × α)) (n:κ):cY (fh f E) n=(bJ E n).map f:=by
 unfold cY fh bJ
 induction E with
 | nil=>rfl
 | cons a E ih =>
   simp only [List.map_cons,List.find?_cons]
   by_cases h:a.1=n <;> simp [h] at ih ⊢
   exact ih
def cx (E:List (κ × α)) (n:κ) (v:α):List (κ × α):=if (bJ E n).isSome=true then E.map (fun p=>if p.1=n then (n,v) else p) else E++[(n,v)]
theorem lJ (f:α→Value) (E:List (κ × α)) (n:κ) (v:α):tf (fh f E) n (f v)=fh f (cx E n v):=by
 unfold tf cx
 rw [cS]
 rcases bJ E n with _ | w
 · simp [fh]
 · simp only [Option.map_some,Option.isSome_some,if_true,fh,List.map_map]
   refine List.map_congr_left fun p _=>?_
   simp only [Function.comp]
   split <;> rfl
theorem eJ (f:α→Value) (E:List (κ × α)) (n:κ):mq (fh f E) n=fh f (cj E n):=by
 unfold mq fh cj
 rw [List.filter_map]
 rfl
omit [DecidableEq κ] in
theorem lK (f:α→Value) (E:List (κ × α)):(fh f E).map (·.1)=E.map (·.1):=by simp [fh,List.map_map,Function.comp_def]
theorem lL (L:List (κ × α)) (n:κ) (v:α):(cx L n v).map (·.1)=if n∈L.map (·.1) then L.map (·.1) else L.map (·.1)++[n]:=by
 unfold cx
 by_cases h:(bJ L n).isSome=true
 · rw [if_pos h,if_pos (gQ.1 h),List.map_map]
   refine List.map_congr_left fun p _=>?_
   simp only [Function.comp]
   split
   · rename_i e;exact e.symm
   · rfl
 · rw [if_neg h,if_neg (fun e=>h (gQ.2 e))]
   simp
theorem vI {L:List (κ × α)} (hn:(L.map (·.1)).Nodup) (n:κ) (v:α):((cx L n v).map (·.1)).Nodup:=by
 rw [lL]
 split
 · exact hn
 · rename_i h
   rw [List.nodup_append]
   exact ⟨hn,by simp,fun a ha b hb=>by rw [List.mem_singleton.1 hb];exact fun e=>h (e▸ha)⟩
theorem zT {L:List (κ × α)} (hn:(L.map (·.1)).Nodup) (n m:κ) (v:α):bJ (cx L n v) m=if m=n then some v else bJ L m:=by
 by_cases e:m=n
 · subst e
   rw [if_pos rfl]
   refine mQ (vI hn m v) ?_
   unfold cx
   split
   · rename_i h
     obtain ⟨w,hw⟩:=Option.isSome_iff_exists.1 h
     exact List.mem_map.2 ⟨_,ca hw,by simp⟩
   · simp
 · rw [if_neg e]
   rcases h:bJ L m with _ | w
   · refine xl fun p hp e2=>?_
     have:m∈(cx L n v).map (·.1):=e2▸List.mem_map.2 ⟨p,hp,rfl⟩
     have hm:m ∉ L.map (·.1):=fun hm=>by have:=gQ.2 hm;rw [h] at this;cases this
     rw [lL] at this
     split at this
     · exact hm this
     · rcases List.mem_append.1 this with h1 | h1
       · exact hm h1
       · exact e (List.mem_singleton.1 h1)
   · refine mQ (vI hn n v) ?_
     have:=ca h
     unfold cx
     split
     · exact List.mem_map.2 ⟨_,this,by simp [e]⟩
     · exact List.mem_append_left _ this
theorem zU (L:List (κ × α)) (n m:κ):bJ (cj L n) m=if m=n then none else bJ L m:=by
 induction L with
 | nil=>simp [cj,bJ]
 | cons a L ih =>
   unfold cj at ih ⊢
   rw [List.filter_cons]
   by_cases h:a.1=n
   · rw [if_neg (by simp [h]),ih,fG]
     by_cases e:m=n
     · simp [e]
     · rw [if_neg e,if_neg e,if_neg (fun e2=>e (by rw [← e2,h]))]
   · rw [if_pos (by simp [h]),fG,fG,ih]
     by_cases e:a.1=m
     · rw [if_pos e,if_pos e,if_neg (fun e2=>h (by rw [e,e2]))]
     · rw [if_neg e,if_neg e]
end
structure gR where
  text : List UInt8
  vo : Value
  oids : List Int
structure ez where
  p : Nat
  d : PD
def sX (s : gR) : Value := .agg ⟨[St s.text, s.vo]⟩
def vJ (i : ez) : Value := .pointer (some ⟨i.p, 0, none⟩)
structure Ad where
  bs : Nat
  ms : Nat
  bp : Nat
  mp : Nat
  be : Nat
  me : Nat
  z : Nat → Prop
def Mu (A : Ad) (P : List (List UInt8 × ez)) (q : Nat) : Prop := q = A.bs ∨ q = A.ms ∨ q = A.mp ∨ q = A.be ∨ ∃ r ∈ P, q = r.2.p
structure Zk (h : ah) (A : Ad) (L : List (List UInt8 × gR)) (P : List (List UInt8 × ez)) : Prop where
  l : ∀ q ∈ L, ∀ k, 0 < q.2.oids.length → q.2.vo.ownBlock = some k → ¬ A.z k
  p : ∀ q ∈ P, ∀ k, q.2.d.F k → ¬ A.z k
  s : ∀ q, A.z q → q < h.size
theorem Zk.sub {h h' : ah} {A : Ad} {L L' : List (List UInt8 × gR)} {P P' : List (List UInt8 × ez)} (k : Zk h A L P) (hs : h.size ≤ h'.size) (hL : ∀ q ∈ L', q ∈ L) (hP : ∀ q ∈ P', q ∈ P) : Zk h' A L' P' := ⟨fun q hq => k.l q (hL q hq), fun q hq => k.p q (hP q hq), fun q hq => Nat.lt_of_lt_of_le (k.s q hq) hs⟩
theorem Zk.up {h h' : ah} {A : Ad} {L : List (List UInt8 × gR)} {P : List (List UInt8 × ez)} (k : Zk h A L P) (hs : h.size ≤ h'.size) : Zk h' A L P := k.sub hs (fun _ h => h) (fun _ h => h)
structure Ss (h : ah) (A : Ad) (st : Int) (sk ov : Bool) (cnt : Int) (L : List (List UInt8 × gR)) (P : List (List UInt8 × ez)) : Prop where
  se : Se h A.bs A.ms A.bp A.mp A.be A.me st sk ov cnt (fh sX L) (fh vJ P) []
  sok : ∀ q ∈ L, Rd h q.2.vo 1 q.2.oids.length (ints q.2.oids) ∧ q.2.oids.length ≤ 20000 ∧ ∀ k, 0 < q.2.oids.length → q.2.vo.ownBlock = some k → ¬ Mu A P k
  pok : ∀ q ∈ P, h[q.2.p]? = some (.cells ⟨q.2.d.cells⟩ 273 (0, 0)) ∧ q.2.d.ok h ∧ ∀ k, q.2.d.F k → ¬ Mu A P k
  dis : ∀ q ∈ P, ∀ r ∈ P, q.1 ≠ r.1 → q.2.p ≠ r.2.p
  sto : jb st
  cok : 0 ≤ cnt ∧ cnt ≤ 1000000
  zz : Zk h A L P
def Tn (A : Ad) (P : List (List UInt8 × ez)) (h h' : ah) (P' : List (List UInt8 × ez)) : Prop := Ext (Mu A P) h h' ∧ ∀ q, q < h.size → Mu A P' q → Mu A P q
theorem Tn.trans {A : Ad} {P P' P'' : List (List UInt8 × ez)} {h h' h'' : ah} (a : Tn A P h h' P') (b : Tn A P' h' h'' P'') : Tn A P h h'' P'' :=
  ⟨a.1.trans' b.1 (fun q hq e => a.2 q hq e), fun q hq e => a.2 q hq (b.2 q (by have := a.1.size; omega) e)⟩
theorem Tn.no {A : Ad} {P : List (List UInt8 × ez)} {h h' : ah} (x : Ext No h h') : Tn A P h h' P := ⟨x.mono fun _ _ e => e.elim, fun _ _ e => e⟩
theorem Tn.same {A : Ad} {P : List (List UInt8 × ez)} {h h' : ah} {S : Nat → Prop} (x : Ext S h h') (hS : ∀ q, S q → Mu A P q) : Tn A P h h' P := ⟨x.mono fun _ _ e => hS _ e, fun _ _ e => e⟩
theorem cy {κ α : Type} [DecidableEq κ] {E : List (κ × α)} {n : κ} {v : α} {q : κ × α} (h : q ∈ cx E n v) : q = (n, v) ∨ (q ∈ E ∧ q.1 ≠ n) := by
  unfold cx at h
  split at h
  · obtain ⟨p, hp, rfl⟩ := List.mem_map.1 h
    by_cases e : p.1 = n
    · rw [if_pos e]; exact .inl rfl
    · rw [if_neg e]; exact .inr ⟨hp, e⟩
  · rename_i hg
    rcases List.mem_append.1 h with h | h
    · exact .inr ⟨h, fun e => hg (gQ.2 (List.mem_map.2 ⟨q, h, e⟩))⟩
    · exact .inl (List.mem_singleton.1 h)
theorem cC {κ α : Type} [DecidableEq κ] {E : List (κ × α)} {n : κ} {q : κ × α} (h : q ∈ cj E n) : q ∈ E ∧ q.1 ≠ n := by
  unfold cj at h
  obtain ⟨h1, h2⟩ := List.mem_filter.1 h
  exact ⟨h1, by simpa using h2⟩
theorem bA {h : ah} {a b : Nat} {c d : Array Value} {T U : TypeId} {y z : Nat × Nat} (ha : h[a]? = some (.cells c T y)) (hb : h[b]? = some (.cells d U z)) (hT : T ≠ U) : a ≠ b := fun e => by
  subst e
  rw [ha] at hb
  simp only [Option.some.injEq, Obj.cells.injEq] at hb
  exact hT hb.2.1
section
variable {h h' : ah} {A : Ad} {st st' : Int} {sk ov sk' ov' : Bool} {cnt cnt' : Int} {L : List (List UInt8 × gR)} {P : List (List UInt8 × ez)} {S : Nat → Prop}
theorem Ss.not (k : Ss h A st sk ov cnt L P) {q : Nat} {cs : Array Value} {T : TypeId} (hq : h[q]? = some (.cells cs T (0, 0))) (h1 : T ≠ 153) (h2 : T ≠ 104) (h3 : T ≠ 273) : ¬ Mu A P q := fun e => by
  rcases e with e | e | e | e | ⟨r, hr, e⟩
  · exact bA hq k.se.bq h1 e
  · exact eo k.se.stm hq e
  · exact eo k.se.pm hq e
  · exact bA hq k.se.eb h2 e
  · exact bA hq (k.pok r hr).1 h3 e
theorem Ss.zV (k : Ss h A st sk ov cnt L P) {v : Value} {T : TypeId} {sz n : Nat} {xs : List Value} (ho : Own h v T sz n xs) (h1 : T ≠ 153) (h2 : T ≠ 104) (h3 : T ≠ 273) : ∀ q, v.ownBlock = some q → ¬ Mu A P q := fun q hq => by
  obtain ⟨_, ⟨rfl, _⟩ | ⟨g, cap, cur, rfl, hg, _⟩⟩ := ho
  · cases hq
  · simp only [Value.ownBlock, Option.some.injEq] at hq
    subst hq
    exact k.not hg h1 h2 h3
theorem Ss.lt (k : Ss h A st sk ov cnt L P) {q : Nat} (e : Mu A P q) : q < h.size := by
  rcases e with e | e | e | e | ⟨r, hr, e⟩
  · exact e ▸ aj k.se.bq
  · exact e ▸ k.se.stm.lt
  · exact e ▸ k.se.pm.lt
  · exact e ▸ aj k.se.eb
  · exact e ▸ aj (k.pok r hr).1
theorem Ss.aq (k : Ss h A st sk ov cnt L P) (x : Ext No h h') : Ss h' A st sk ov cnt L P :=
  ⟨k.se.aq x, fun q hq => ⟨(k.sok q hq).1.aq x, (k.sok q hq).2⟩, fun q hq => ⟨x.obj (k.pok q hq).1 aO, (k.pok q hq).2.1.ext x (fun _ _ => aO), (k.pok q hq).2.2⟩, k.dis, k.sto, k.cok, k.zz.up x.size⟩
theorem Ss.jL (k : Ss h A st sk ov cnt L P) (x : Ext (fun z => z = A.bs) h h') (hb : h'[A.bs]? = some (.cells ⟨[.map (some A.ms), .pointer (some ⟨A.bp, 0, none⟩), .pointer (some ⟨A.be, 0, none⟩), .int .u8 st', .bool sk', .bool ov']⟩ 153 (0, 0))) (hs : jb st') : Ss h' A st' sk' ov' cnt L P ∧ Tn A P h h' P :=
  ⟨⟨k.se.jL x hb, fun q hq => ⟨(k.sok q hq).1.ext' x (fun z h0 hz e => (k.sok q hq).2.2 z h0 hz (.inl e)), (k.sok q hq).2⟩, fun q hq => ⟨x.obj (k.pok q hq).1 (fun e => bA (k.pok q hq).1 k.se.bq (by decide) e), (k.pok q hq).2.1.ext x (fun z hz e => (k.pok q hq).2.2 z hz (.inl e)), (k.pok q hq).2.2⟩, k.dis, hs, k.cok, k.zz.up x.size⟩, Tn.same x (fun q e => .inl e)⟩
theorem Ss.nA (k : Ss h A st sk ov cnt L P) {L' : List (List UInt8 × gR)} (x : Ext (fun z => z = A.ms) h h') (hm : Mp .string St h' A.ms (fh sX L')) (hL : ∀ q ∈ L', q ∈ L ∨ (Rd h q.2.vo 1 q.2.oids.length (ints q.2.oids) ∧ q.2.oids.length ≤ 20000 ∧ ∀ k, 0 < q.2.oids.length → q.2.vo.ownBlock = some k → ¬ Mu A P k ∧ ¬ A.z k)) : Ss h' A st sk ov cnt L' P ∧ Tn A P h h' P := by
  have e := k.se
  refine ⟨⟨⟨x.obj e.bq (eo e.stm e.bq), hm, x.obj e.pb (eo e.stm e.pb), e.pm.ext x (fun z => e.ne.1 z.symm), x.obj e.eb (eo e.stm e.eb), e.em.ext x (fun z => e.ne.2.1 z.symm), e.ne⟩, fun q hq => ?_, fun q hq => ⟨x.obj (k.pok q hq).1 (eo e.stm (k.pok q hq).1), (k.pok q hq).2.1.ext x (fun z hz e => (k.pok q hq).2.2 z hz (.inr (.inl e))), (k.pok q hq).2.2⟩, k.dis, k.sto, k.cok, ⟨fun q hq k0 a b => (hL q hq).elim (fun z => k.zz.l q z k0 a b) (fun z => (z.2.2 k0 a b).2), k.zz.p, (k.zz.up x.size).s⟩⟩, Tn.same x (fun q e => .inr (.inl e))⟩
  have := (hL q hq).elim (fun z => k.sok q z) (fun z => ⟨z.1, z.2.1, fun k0 a b => (z.2.2 k0 a b).1⟩)
  exact ⟨this.1.ext' x (fun z h0 hz e => this.2.2 z h0 hz (.inr (.inl e))), this.2⟩
theorem Ss.cK (k : Ss h A st sk ov cnt L P) {P' : List (List UInt8 × ez)} (x : Ext (fun z => z = A.mp) h h') (hm : Mp .string St h' A.mp (fh vJ P')) (hP : ∀ q ∈ P', q ∈ P) : Ss h' A st sk ov cnt L P' ∧ Tn A P h h' P' := by
  have e := k.se
  have hmu : ∀ q, Mu A P' q → Mu A P q := fun q z => by
    rcases z with z | z | z | z | ⟨r, hr, z⟩
    · exact .inl z
    · exact .inr (.inl z)
    · exact .inr (.inr (.inl z))
    · exact .inr (.inr (.inr (.inl z)))
    · exact .inr (.inr (.inr (.inr ⟨r, hP r hr, z⟩)))
  exact ⟨⟨⟨x.obj e.bq (eo e.pm e.bq), e.stm.ext x e.ne.1, x.obj e.pb (eo e.pm e.pb), hm, x.obj e.eb (eo e.pm e.eb), e.em.ext x (fun z => e.ne.2.2 z.symm), e.ne⟩,
    fun q hq => ⟨(k.sok q hq).1.ext' x (fun z h0 hz e => (k.sok q hq).2.2 z h0 hz (.inr (.inr (.inl e)))), (k.sok q hq).2.1, fun z h0 hz e => (k.sok q hq).2.2 z h0 hz (hmu _ e)⟩,
    fun q hq => ⟨x.obj (k.pok q (hP q hq)).1 (eo e.pm (k.pok q (hP q hq)).1), (k.pok q (hP q hq)).2.1.ext x (fun z hz e => (k.pok q (hP q hq)).2.2 z hz (.inr (.inr (.inl e)))), fun z hz e => (k.pok q (hP q hq)).2.2 z hz (hmu _ e)⟩,
    fun q hq r hr => k.dis q (hP q hq) r (hP r hr), k.sto, k.cok, k.zz.sub x.size (fun _ h => h) hP⟩, x.mono (fun q _ e => .inr (.inr (.inl e))), fun q _ => hmu q⟩
theorem Ss.lM (k : Ss h A st sk ov cnt L P) {n : List UInt8} {p : Nat} {d : PD} (x : Ext (fun z => z = A.mp) h h') (hm : Mp .string St h' A.mp (fh vJ (cx P n ⟨p, d⟩))) (hp : h'[p]? = some (.cells ⟨d.cells⟩ 273 (0, 0))) (hd : d.ok h') (hg : h.size ≤ p) (hF : ∀ z, d.F z → h.size ≤ z ∧ z ≠ p) : Ss h' A st sk ov cnt L (cx P n ⟨p, d⟩) ∧ Tn A P h h' (cx P n ⟨p, d⟩) := by
  have e := k.se
  have hmu : ∀ q, Mu A (cx P n ⟨p, d⟩) q → Mu A P q ∨ q = p := fun q z => by
    rcases z with z | z | z | z | ⟨r, hr, z⟩
    · exact .inl (.inl z)
    · exact .inl (.inr (.inl z))
    · exact .inl (.inr (.inr (.inl z)))
    · exact .inl (.inr (.inr (.inr (.inl z))))
    · rcases cy hr with rfl | ⟨hr, _⟩
      · exact .inr z
      · exact .inl (.inr (.inr (.inr (.inr ⟨r, hr, z⟩))))
  refine ⟨⟨⟨x.obj e.bq (eo e.pm e.bq), e.stm.ext x e.ne.1, x.obj e.pb (eo e.pm e.pb), hm, x.obj e.eb (eo e.pm e.eb), e.em.ext x (fun z => e.ne.2.2 z.symm), e.ne⟩,
    fun q hq => ⟨(k.sok q hq).1.ext' x (fun z h0 hz e => (k.sok q hq).2.2 z h0 hz (.inr (.inr (.inl e)))), (k.sok q hq).2.1, fun z h0 hz e => ?_⟩, fun q hq => ?_, fun q hq r hr hne => ?_, k.sto, k.cok, ⟨k.zz.l, fun q hq z hz => ?_, (k.zz.up x.size).s⟩⟩, x.mono (fun q _ e => .inr (.inr (.inl e))), fun q hq z => (hmu q z).resolve_right (fun e => by omega)⟩
  · rcases hmu z e with e | e
    · exact (k.sok q hq).2.2 z h0 hz e
    · have := (k.sok q hq).1.lt h0 hz; omega
  · rcases cy hq with rfl | ⟨hq, hn⟩
    · refine ⟨hp, hd, fun z hz e => ?_⟩
      rcases hmu z e with e | e
      · have := k.lt e; have := (hF z hz).1; omega
      · exact (hF z hz).2 e
    · refine ⟨x.obj (k.pok q hq).1 (eo e.pm (k.pok q hq).1), (k.pok q hq).2.1.ext x (fun z hz e => (k.pok q hq).2.2 z hz (.inr (.inr (.inl e)))), fun z hz e => ?_⟩
      rcases hmu z e with e | e
      · exact (k.pok q hq).2.2 z hz e
      · have := (k.pok q hq).2.1.lt hz; omega
  · rcases cy hq with rfl | ⟨hq, hn⟩ <;> rcases cy hr with rfl | ⟨hr, hm⟩
    · exact absurd rfl hne
    · have := aj (k.pok r hr).1
      show p ≠ r.2.p
      omega
    · have := aj (k.pok q hq).1
      show q.2.p ≠ p
      omega
    · exact k.dis q hq r hr hne
  · rcases cy hq with rfl | ⟨hq, _⟩
    · exact fun e => by have := k.zz.s z e; have := (hF z hz).1; omega
    · exact k.zz.p q hq z hz
theorem Ss.Im (k : Ss h A st sk ov cnt L P) {n : List UInt8} {i : ez} {d : PD} (hi : bJ P n = some i) (x : Ext (fun z => z = i.p) h h') (hp : h'[i.p]? = some (.cells ⟨d.cells⟩ 273 (0, 0))) (hd : d.ok h') (hF : ∀ z, d.F z → i.d.F z ∨ h.size ≤ z) : Ss h' A st sk ov cnt L (cx P n ⟨i.p, d⟩) ∧ Tn A P h h' (cx P n ⟨i.p, d⟩) := by
  have e := k.se
  have him := ca hi
  have hip := k.pok _ him
  have hmi : Mu A P i.p := .inr (.inr (.inr (.inr ⟨_, him, rfl⟩)))
  have hmu : ∀ q, Mu A (cx P n ⟨i.p, d⟩) q → Mu A P q := fun q z => by
    rcases z with z | z | z | z | ⟨r, hr, z⟩
    · exact .inl z
    · exact .inr (.inl z)
    · exact .inr (.inr (.inl z))
    · exact .inr (.inr (.inr (.inl z)))
    · rcases cy hr with rfl | ⟨hr, _⟩
      · exact z ▸ hmi
      · exact .inr (.inr (.inr (.inr ⟨r, hr, z⟩)))
  have hen : fh vJ (cx P n ⟨i.p, d⟩) = fh vJ P := by
    unfold cx
    rw [if_pos (by rw [hi]; rfl)]
    unfold fh
    rw [List.map_map]
    refine List.map_congr_left fun q hq => ?_
    simp only [Function.comp]
    by_cases hqn : q.1 = n
    · rw [if_pos hqn]
      have hnd : ((fh vJ P).map (·.1)).Nodup := Mp.nodup fJ e.pm
      rw [lK] at hnd
      have := mQ hnd (show (q.1, q.2) ∈ P from hq)
      rw [hqn, hi] at this
      simp only [Option.some.injEq] at this
      rw [← this, hqn]
      rfl
    · rw [if_neg hqn]
  refine ⟨⟨?_, fun q hq => ⟨(k.sok q hq).1.ext' x (fun z h0 hz e => (k.sok q hq).2.2 z h0 hz (e ▸ hmi)), (k.sok q hq).2.1, fun z h0 hz e => (k.sok q hq).2.2 z h0 hz (hmu _ e)⟩, fun q hq => ?_, fun q hq r hr hne => ?_, k.sto, k.cok, ⟨k.zz.l, fun q hq z hz => ?_, (k.zz.up x.size).s⟩⟩, x.mono (fun q _ e => e ▸ hmi), fun q _ => hmu q⟩
  · rw [hen]
    exact e.Ik hip.1 x
  · rcases cy hq with rfl | ⟨hq, hn⟩
    · exact ⟨hp, hd, fun z hz e => (hF z hz).elim (fun y => hip.2.2 z y (hmu _ e)) (fun y => by have := k.lt (hmu _ e); omega)⟩
    · exact ⟨x.obj (k.pok q hq).1 (k.dis q hq _ him hn), (k.pok q hq).2.1.ext x (fun z hz e => (k.pok q hq).2.2 z hz (e ▸ hmi)), fun z hz e => (k.pok q hq).2.2 z hz (hmu _ e)⟩
  · rcases cy hq with rfl | ⟨hq, hn⟩ <;> rcases cy hr with rfl | ⟨hr, hm⟩
    · exact absurd rfl hne
    · exact fun e => k.dis _ him r hr (fun y => hm y.symm) e
    · exact fun e => k.dis q hq _ him hn e
    · exact k.dis q hq r hr hne
  · rcases cy hq with rfl | ⟨hq, _⟩
    · exact (hF z hz).elim (fun y => k.zz.p _ him z y) (fun y e => by have := k.zz.s z e; omega)
    · exact k.zz.p q hq z hz
end
def fY (o:Option (List UInt8 × List UInt8)):Value:=match o with
 | none=>.nilIface
 | some (a,c)=>.iface 169 (.agg ⟨[St a,St c]⟩)
abbrev qe:List UInt8:=([99,117,114,114,101,110,116,32,116,114,97,110,115,97,99,116,105,111,110,32,105,115,32,97,98,111,114,116,101,100,44,32,99,111,109,109,97,110,100,115,32,105,103,110,111,114,101,100,32,117,110,116,105,108,32,101,110,100,32,111,102,32,116,114,97,110,115,97,99,116,105,111,110,32,98,108,111,99,107]:List UInt8)
theorem iu {h:ah} (a c:List UInt8):ag Tryz.prog 204 ⟨[St a,St c]⟩ h fun u h'=>u=fY (some (a,c))∧h'=h:=by
 refine calls [(0,_),(1,_)] Tryz.func204 rfl Tryz.ntmps204 rfl ⟨rfl,rfl,trivial⟩ ?_
 refine G2 ?_;refine G2 ?_;refine WL.step (aD (vs:=[_,_]) (cs:=[_,_]) (fun | [a0,a1]=>[a0,a1] | _=>[]) rfl rfl (by kernel_rfl)) rfl rfl rfl ?_
 refine WL.step (fQ ⟨_,Tryz.underlying169,fun _ h=>by cases h⟩ rfl) rfl rfl rfl (Go ?_)
 refine Gs [(4,_)] ?_;refine Gt ?_
 exact ⟨rfl,rfl⟩
def jY (t:List UInt8) (st:Int):Option (List UInt8 × List UInt8):=if (bj t).k=0 then some (([52,50,54,48,49]:List UInt8),([115,121,110,116,97,120,32,101,114,114,111,114]:List UInt8)) else if st=69∧cz (bj t)=false then some (([50,53,80,48,50]:List UInt8),qe) else none
def gE (t:List UInt8) (st:Int):Option (List UInt8 × List UInt8):=if st=69∧cz (bj t)=false then some (([50,53,80,48,50]:List UInt8),qe) else none
theorem ui {h:ah}:ag Tryz.prog 275 ⟨[]⟩ h fun u h'=>u=St qe∧h'=h:=by
 refine calls [] Tryz.func275 rfl Tryz.ntmps275 rfl trivial ?_
 refine G2 ?_;refine G2 ?_;refine Gt ?_
 exact ⟨rfl,rfl⟩
section
variable {h:ah} {A:Ad} {st:Int} {sk ov:Bool} {cnt:Int} {L:List (List UInt8 × gR)} {P:List (List UInt8 × ez)}
theorem xm (k:Ss h A st sk ov cnt L P) (t:List UInt8) (hm:t.length≤1000000):ag Tryz.prog 242 ⟨[.pointer (some ⟨A.be,0,none⟩),St t,.int .u8 st]⟩ h fun u h'=>u=.tuple ⟨[St ((jY t st).getD ([],[])).1,St ((jY t st).getD ([],[])).2,.bool (jY t st).isSome]⟩∧Ext No h h':=by
 have kx:=fun h'=>mO (h:=h') (bj t)
 have kr:=lI k.se.eb
 have heb:=k.se.eb
 have hem:=k.se.em
 have kp:=fun h'=>oK (h:=h') t hm
 unfold jY
 obtain ⟨v,hv⟩:∃ v,bj t=v:=⟨_,rfl⟩
 rw [hv] at kx kp ⊢
 unfold gi.cells my at kx kp
 rcases (show v.k=0∨v.k ≠ 0∧st=69∧cz v=false∨v.k ≠ 0∧st=69∧cz v=true∨v.k ≠ 0∧st ≠ 69∧cz v=true∨v.k ≠ 0∧st ≠ 69∧cz v=false∧v.k=1∨v.k ≠ 0∧st ≠ 69∧cz v=false∧v.k ≠ 1 by
   by_cases e1:v.k=0
   · exact .inl e1
   · by_cases e2:st=69 <;> cases e3:cz v
     · exact .inr (.inl ⟨e1,e2,rfl⟩)
     · exact .inr (.inr (.inl ⟨e1,e2,rfl⟩))
     · by_cases e4:v.k=1
       · exact .inr (.inr (.inr (.inr (.inl ⟨e1,e2,rfl,e4⟩))))
       · exact .inr (.inr (.inr (.inr (.inr ⟨e1,e2,rfl,e4⟩))))
     · exact .inr (.inr (.inr (.inl ⟨e1,e2,rfl⟩)))) with e1 | ⟨e1,e2,e3⟩ | ⟨e1,e2,e3⟩ | ⟨e1,e2,e3⟩ | ⟨e1,e2,e3,e4⟩ | ⟨e1,e2,e3,e4⟩
 all_goals
   try rw [e3] at kx
   refine calls [(0,_),(1,_),(2,_)] Tryz.func242 rfl Tryz.ntmps242 rfl ⟨rfl,rfl,rfl,trivial⟩ ?_
   all_goals (refine G2 ?_;refine G3 ?_;refine WL.call (vs:=[_]) rfl Tryz.call258 rfl (kr) rfl rfl rfl ?_;rintro _ hz ⟨rfl,_⟩;subst hz;refine Go ?_;refine Gs [(0,_),(1,_),(2,_),(12,_)] ?_;refine aJ 1 2 ?_ TT.mk;refine ax 2 ?_;refine WC.skip ?_;refine Gn ?_;refine G2 ?_;refine WL.call (vs:=[_]) rfl Tryz.call214 rfl (kp _) rfl rfl rfl ?_;rintro _ h1 ⟨rfl,ay⟩;refine WL.ai (av (fun w=>Tryz.zeroValue278 w)) rfl rfl rfl ?_;rintro _ h2 ⟨b9,rfl,eS,bH,aH⟩;refine WL.az (al Tryz.sizeOf278 rfl rfl rfl bH rfl (by simp [Value.oneCell'])) rfl rfl ?_;rintro _ h3 ⟨bn,aP⟩;have X3:Ext No h h3:=ay.trans (aH.trans' aP (fun q hq e=>by omega));refine Gn ?_;refine WC.seq ?_;refine WC.block ?_;refine G2 ?_;refine WL.ld rfl (by first | exact aa bn rfl | assumption) rfl rfl rfl (Go ?_);refine Gs [(0,_),(1,_),(2,_),(9,_),(15,_)] ?_;refine aJ 3 4 ?_ TT.mk)
   all_goals try (
   refine ax 3 ?_
   all_goals (refine G2 ?_;refine Gs [(6,_),(7,_),(8,_)] ?_;refine Gt ?_;refine ⟨?_,X3⟩;first | (rw [if_pos e1];rfl) | (rw [if_neg e1,if_pos ⟨e2,e3⟩];rfl) | (rw [if_neg e1,if_neg (fun y=>by rw [e3] at y;exact absurd y.2 (by decide))];rfl) | (rw [if_neg e1,if_neg (fun y=>e2 y.1)];rfl))
   skip)
   all_goals (refine ax 4 ?_;refine G2 ?_;refine bG 22 ?_ TT.mk;first | refine WL.pass rfl rfl rfl ?_ | (refine WL.step (an Tryz.isAgg278 Tryz.sizeOf278 rfl rfl (by exact At.au bn)) rfl rfl rfl ?_))
   all_goals (
    first
      | (refine WL.pass rfl rfl rfl ?_)
      | (refine WL.call (vs:=[_]) rfl Tryz.call265 rfl (kx _) rfl rfl rfl ?_
         rintro _ h4 ⟨rfl,aW⟩
         have bn:=aW.obj bn aO
         have X3:=X3.trans aW))
   all_goals (refine Gg ?_;refine Go ?_;refine Gs [(0,_),(1,_),(9,_),(19,_)] ?_;refine aJ 5 6 ?_ TT.mk)
   all_goals try (
   refine ax 5 ?_
   all_goals (refine G2 ?_;refine Gs [(6,_),(7,_),(8,_)] ?_;refine Gt ?_;refine ⟨?_,X3⟩;first | (rw [if_pos e1];rfl) | (rw [if_neg e1,if_pos ⟨e2,e3⟩];rfl) | (rw [if_neg e1,if_neg (fun y=>by rw [e3] at y;exact absurd y.2 (by decide))];rfl) | (rw [if_neg e1,if_neg (fun y=>e2 y.1)];rfl))
   skip)
   all_goals (refine ax 6 ?_;refine WC.seq ?_;refine WC.sr ?_;refine WL.step (an Tryz.isAgg278 Tryz.sizeOf278 rfl rfl (by exact At.au bn)) rfl rfl rfl ?_;refine WL.call (vs:=[_]) rfl Tryz.call265 rfl (kx _) rfl rfl rfl ?_;rintro _ h4 ⟨rfl,aW⟩;have bn:=aW.obj bn aO;have X3:=X3.trans aW;refine Go ?_;refine aJ 7 8 ?_ TT.mk)
   all_goals try (
   refine ax 7 ?_
   all_goals (refine WC.skip ?_)
   skip)
   all_goals try (
   refine ax 8 ?_
   all_goals (refine WC.region (Go ?_);refine WL.ld rfl (by first | exact aa bn rfl | assumption) rfl rfl rfl (Go ?_))
   skip)
   all_goals (refine Gn ?_;refine Gs [(0,_),(1,_),(27,_)] ?_;refine aJ 9 10 ?_ TT.mk)
   all_goals try (
   refine ax 9 ?_
   all_goals (refine WC.skip ?_)
   skip)
   all_goals try (
   refine ax 10 ?_
   all_goals (refine G2 ?_;refine WL.step (ae rfl) rfl rfl rfl (Go ?_);refine WL.ld rfl (by first | exact aa (X3.obj heb aO) rfl | assumption) rfl rfl rfl (Go ?_);refine WL.step ((du fJ Tryz.underlying97 Tryz.underlying9 (fun w=>Tryz.zeroValue4 w) rfl rfl (hem.ext X3 aO) (by rfl)).2) rfl rfl rfl (Go ?_);refine Gs [(33,_)] ?_;refine aJ 11 12 ?_ TT.mk;refine ax 12 ?_;refine WC.skip ?_)
   skip)
   all_goals (refine Gn ?_;refine G2 ?_;refine Gt ?_;refine ⟨?_,X3⟩;first | (rw [if_pos e1];rfl) | (rw [if_neg e1,if_pos ⟨e2,e3⟩];rfl) | (rw [if_neg e1,if_neg (fun y=>by rw [e3] at y;exact absurd y.2 (by decide))];rfl) | (rw [if_neg e1,if_neg (fun y=>e2 y.1)];rfl))
theorem ju (k:Ss h A st sk ov cnt L P) (t:List UInt8) (hm:t.length≤1000000):ag Tryz.prog 203 ⟨[.pointer (some ⟨A.bs,0,none⟩),St t]⟩ h fun u h'=>u=fY (jY t st)∧Ext No h h':=by
 have hb:=k.se.bq
 have kv:=xm k t hm
 cases hr:jY t st
 all_goals
   rw [hr] at kv
   dsimp only [Option.getD_none,Option.getD_some,Option.isSome_none,Option.isSome_some] at kv
   refine calls [(0,_),(1,_)] Tryz.func203 rfl Tryz.ntmps203 rfl ⟨rfl,rfl,trivial⟩ ?_
   all_goals (refine G2 ?_;refine WC.seq ?_;refine WC.seq ?_;refine WC.bW (fun h'=>Ext No h h') 17 17 rfl dk ?_;refine WH.tk 0 rfl (fun hq hC=>ak rfl) rfl rfl rfl ?_;refine WH.tk 1 rfl (fun hq hC=>ae rfl) rfl rfl rfl ?_;refine WH.tk 2 rfl (fun hq hC=>ad rfl Tryz.underlying153 rfl Tryz.sizeOf46) rfl rfl rfl ?_;refine WH.tk 3 rfl (fun hq hC=>aA Tryz.isAgg46 rfl (by first | exact hC.cell (by first | exact aa hb rfl | assumption) aO)) rfl rfl rfl ?_;refine WH.tk 4 rfl (fun hq hC=>ak rfl) rfl rfl rfl ?_;refine WH.tk 5 rfl (fun hq hC=>ak rfl) rfl rfl rfl ?_;refine WH.tk 6 rfl (fun hq hC=>ae rfl) rfl rfl rfl ?_;refine WH.tk 7 rfl (fun hq hC=>ad rfl Tryz.underlying153 rfl Tryz.sizeOf5) rfl rfl rfl ?_;refine WH.tk 8 rfl (fun hq hC=>aA Tryz.isAgg5 rfl (by first | exact hC.cell (by first | exact aa hb rfl | assumption) aO)) rfl rfl rfl ?_;refine WH.one 9 (by kernel_rfl) ?_;refine aE.call (vs:=[_,_,_]) rfl rfl Tryz.call242 rfl (kv) rfl rfl rfl ?_ (fun _=>by kernel_rfl);rintro _ h1 ⟨rfl,ay⟩;refine ⟨fun _=>ay,?_⟩;refine WH.tk 10 rfl (fun hq hC=>ak rfl) rfl rfl rfl ?_;refine WH.tk 11 rfl (fun hq hC=>bU rfl rfl) rfl rfl rfl ?_;refine WH.tk 12 rfl (fun hq hC=>bU rfl rfl) rfl rfl rfl ?_;refine WH.tk 13 rfl (fun hq hC=>bU rfl rfl) rfl rfl rfl ?_;refine WH.tk 14 rfl (fun hq hC=>aR rfl) rfl rfl rfl ?_;refine WH.tk 15 rfl (fun hq hC=>aR rfl) rfl rfl rfl ?_;refine WH.tk 16 rfl (fun hq hC=>aR rfl) rfl rfl rfl ?_;refine WH.done (by kernel_rfl) ?_;refine Gn ?_;refine Gs [(5,_),(6,_),(7,_)] ?_;refine G2 ?_;refine aJ 1 2 ?_ TT.mk)
   all_goals try (
   refine ax 1 ?_
   all_goals (refine G2 ?_;refine WL.call (vs:=[_,_]) rfl Tryz.call204 rfl (iu _ _) rfl rfl rfl ?_;rintro _ hq ⟨rfl,hz⟩;replace hz:=hz.symm;subst hz;refine Go ?_;refine Gs [(4,_)] ?_;refine Gt ?_;exact ⟨rfl,by first | exact ay | exact hC⟩)
   skip)
   all_goals (refine ax 2 ?_;refine WC.skip ?_;refine Gn ?_;refine Gs [] ?_;refine G2 ?_;refine Gt ?_;exact ⟨rfl,by first | exact ay | exact hC⟩)
theorem oO (k:Ss h A st sk ov cnt L P) (t:List UInt8) {v:Value} (hm:t.length≤1000000) (hv:∃ B n c,v=.slice B n c):ag Tryz.prog 245 ⟨[.pointer (some ⟨A.bs,0,none⟩),.agg ⟨[St t,v]⟩]⟩ h fun u h'=>u=fY (gE t st)∧Ext No h h':=by
 have hb:=k.se.bq
 have kx:=fun h'=>mO (h:=h') (bj t)
 have kp:=fun h'=>oK (h:=h') t hm
 obtain ⟨B,n,c,rfl⟩:=hv
 unfold gE
 obtain ⟨w,hw⟩:∃ w,bj t=w:=⟨_,rfl⟩
 rw [hw] at kx kp ⊢
 unfold gi.cells my at kx kp
 rcases (show st=69∧cz w=false∨st=69∧cz w=true∨st ≠ 69 by
   by_cases e1:st=69 <;> cases e3:cz w
   · exact .inl ⟨e1,rfl⟩
   · exact .inr (.inl ⟨e1,rfl⟩)
   · exact .inr (.inr e1)
   · exact .inr (.inr e1)) with ⟨e1,e3⟩ | ⟨e1,e3⟩ | e1
 all_goals
   try rw [e3] at kx
   refine calls [(0,_),(1,_)] Tryz.func245 rfl Tryz.ntmps245 rfl ⟨rfl,rfl,trivial⟩ ?_
   all_goals (refine WC.sr ?_;refine WL.ai (aB rfl) rfl rfl rfl ?_;rintro _ h1 ⟨b3,rfl,bO,aQ,ay⟩;refine Go ?_;refine G3 ?_;refine WL.step (ae rfl) rfl rfl rfl (Go ?_);refine WL.ld rfl (by first | exact aa (ay.obj hb aO) rfl | assumption) rfl rfl rfl (Go ?_);refine bG 10 ?_ TT.mk;refine Gg ?_;first | refine WL.pass rfl rfl rfl ?_ | (refine WL.ld rfl (by first | exact aa aQ rfl | assumption) rfl rfl rfl ?_))
   all_goals (
    first
      | (refine WL.pass rfl rfl rfl ?_)
      | (refine WL.call (vs:=[_]) rfl Tryz.call214 rfl (kp _) rfl rfl rfl ?_
         rintro _ h2 ⟨rfl,aH⟩))
   all_goals (
    first
      | (refine WL.pass rfl rfl rfl ?_)
      | (refine WL.call (vs:=[_]) rfl Tryz.call265 rfl (kx _) rfl rfl rfl ?_
         rintro _ h3 ⟨rfl,aP⟩
         replace ay:=(ay.trans aH).trans aP))
   all_goals (refine Gg ?_;refine Go ?_;refine Gs [(16,_)] ?_;refine aJ 1 2 ?_ TT.mk)
   all_goals try (
   refine ax 1 ?_
   all_goals (refine WC.sr ?_;refine WL.call (vs:=[]) rfl Tryz.call275 rfl (ui) rfl rfl rfl ?_;rintro _ hq ⟨rfl,hz⟩;replace hz:=hz.symm;subst hz;refine WL.call (vs:=[_,_]) rfl Tryz.call204 rfl (iu _ _) rfl rfl rfl ?_;rintro _ hq ⟨rfl,hz⟩;replace hz:=hz.symm;subst hz;refine Go ?_;refine Gt ?_)
   all_goals (
    refine ⟨?_,ay⟩
    first
     | exact congrArg fY (if_pos (show st=69∧cz w=false from ⟨e1,e3⟩)).symm
     | exact (show Value.nilIface=fY none from rfl).trans (congrArg fY (if_neg (show ¬ (st=69∧cz w=false) from fun y=>absurd (e3.symm.trans y.2) (by decide))).symm)
     | exact (show Value.nilIface=fY none from rfl).trans (congrArg fY (if_neg (show ¬ (st=69∧cz w=false) from fun y=>e1 y.1)).symm))
   skip)
   all_goals (refine ax 2 ?_;refine WC.skip ?_;refine Gn ?_;refine G2 ?_;refine Gt ?_)
   all_goals (
    refine ⟨?_,ay⟩
    first
     | exact congrArg fY (if_pos (show st=69∧cz w=false from ⟨e1,e3⟩)).symm
     | exact (show Value.nilIface=fY none from rfl).trans (congrArg fY (if_neg (show ¬ (st=69∧cz w=false) from fun y=>absurd (e3.symm.trans y.2) (by decide))).symm)
     | exact (show Value.nilIface=fY none from rfl).trans (congrArg fY (if_neg (show ¬ (st=69∧cz w=false) from fun y=>e1 y.1)).symm))
end
section
variable {h h':ah} {bs ms bp mp be me:Nat} {st st':Int} {sk ov:Bool} {cnt:Int} {L P P' R:List (List UInt8 × Value)} {S:Nat→Prop}
def F1 (k st:Int) (tag:List UInt8):List Value:=[.int .u8 k,.int .u8 st,St tag,St [],St [],In 0,In 0,.slice none 0 0,.slice none 0 0,.slice none 0 0,.slice none 0 0]
theorem fH {v:Value} {b:Nat} {l:List aX} (e:l=[]):¬ dy v l b:=fun h=>by subst e;rcases h with ⟨z,_⟩ | ⟨c,hc,_⟩;simp at z;cases hc
theorem jc {v:Value} {b:Nat} {l:List Rw} (e:l=[]):¬ dN v l b:=fun h=>by subst e;rcases h with ⟨z,_⟩ | ⟨c,hc,_⟩;simp at z;cases hc
end
end Go.Proofs.YtopgddfgefnmbaaGreatDoor
namespace Go.Proofs.YtopgddfgefnmbaaGreatDoor
open Go Go.RK Go.RowKit
theorem r7 {P:Program} {k:FuncId} {args:Array Value} {h:ah} {v:Value} (hc:∀ w:World,w.heap=h→Calls P k args w fun e w'=>e=.returned v∧Below w.heap.size w w'):ag P k args h fun u h'=>u=v∧Ext No h h' :=
 fun w hw=>(hc w hw).mono fun e w' ⟨he,hb⟩=>⟨⟨hb.tape,hb.os,hb.output,trivial⟩,v,he,rfl,by subst hw;exact ⟨hb.size,fun b hlt _=>hb.block b hlt⟩⟩
theorem Io {h:ah} {b:Nat} (a c d:List UInt8) (hb:h[b]?=some (.cells ⟨[St a,St c,St d]⟩ 9 (0,0))) (hl:a.length+c.length+d.length≤1000000) :
   ag Tryz.prog 273 ⟨[.slice (some ⟨b,0,none⟩) 3 3,St [32]]⟩ h fun u h'=>u=St (a++[32]++c++[32]++d)∧Ext No h h':=by
 have e:Lib.join ([ByteArray.mk ⟨a⟩,⟨⟨c⟩⟩,⟨⟨d⟩⟩].map (·.data.toList)) (ByteArray.mk ⟨[32]⟩).data.toList=a++[32]++c++[32]++d:=by
   show Lib.join [a,c,d] [32]=_
   rw [Lib.join_cons]
   simp [Lib.joinTail]
 refine r7 fun w hw=>?_
 subst hw
 have:=Tryz.strings_Join b 0 3 [⟨⟨a⟩⟩,⟨⟨c⟩⟩,⟨⟨d⟩⟩] ⟨⟨[32]⟩⟩ w (fun j x hj=>?_) (aj hb) (by simp) (by simp) (by rw [e];simp;omega)
 · rw [e] at this
   exact this
 · rw [mG,cell_of hb,Nat.zero_add]
   rcases j with _ | _ | _ | j <;> simp at hj ⊢
   all_goals (subst hj;rfl)
end Go.Proofs.YtopgddfgefnmbaaGreatDoor
namespace Go.Proofs.YtopgddfgefnmbaaGreatDoor
open Go Go.RK
def db (m:Nat):List UInt8:=if m < 10 then [UInt8.ofNat (48+m)] else UInt8.ofNat (48+m % 10) :: db (m / 10)
def x7 (m:Nat):List UInt8:=(db m).reverse
def dw (n:Int):List UInt8:=if n < 0 then 45 :: x7 n.natAbs else x7 n.natAbs
theorem mR {m:Nat} (h:m < 10):db m=[UInt8.ofNat (48+m)]:=by unfold db;rw [if_pos h]
theorem qf {m:Nat} (h:¬ m < 10):db m=UInt8.ofNat (48+m % 10) :: db (m / 10):=by rw [db,if_neg h]
theorem zW (k m:Nat) (h:m < 10 ^ (k+1)):(db m).length≤k+1:=by
 induction k generalizing m with
 | zero=>rw [mR (by omega)];simp
 | succ k ih =>
   by_cases h1:m < 10
   · rw [mR h1];simp
   · rw [qf h1]
     have:m / 10 < 10 ^ (k+1):=by
       rw [Nat.div_lt_iff_lt_mul (by omega)]
       rw [Nat.pow_succ] at h
       exact h
     have:=ih _ this
     simp;omega
theorem iv (m:Nat) (h:m≤9223372036854775808):(db m).length≤20:=zW 19 m (by omega)
theorem C4 (m:Nat) (h:m≤9223372036854775808):(x7 m).length≤20:=by unfold x7;simpa using iv m h
theorem zX (m:Nat):0 < (db m).length:=by unfold db;split <;> simp
theorem dt (n:Int) (h:n.natAbs≤9223372036854775808):(dw n).length≤21:=by
 have:=C4 _ h
 unfold dw
 split <;> simp <;> omega
theorem F2 (m:Nat):By (UInt8.ofNat (48+m % 10))=.int .u8 (48+(m % 10:Nat)):=by
 have:(UInt8.ofNat (48+m % 10)).toNat=48+m % 10:=by simp;omega
 unfold By
 rw [this]
 simp
theorem uj (m:Nat):(-(m:Int)).tdiv 10 = -((m / 10:Nat):Int):=by rw [Int.neg_tdiv];rfl
theorem uk (m:Nat):(-(m:Int)).tmod 10 = -((m % 10:Nat):Int):=by rw [Int.neg_tmod];rfl
def Bl (h:ah) (b:Nat) (v:Value) (bs:List UInt8):Prop:=(∃ p,h[b]?=some (.cells ⟨[p,v]⟩ 344 (0,0))∧(p=.pointer none∨p=.pointer (some ⟨b,0,none⟩)))∧Own h v 5 1 bs.length (bu bs)∧(bs=[]→v=.slice none 0 0)
theorem zY (v:Value) (w:World):(callFunc 314 #[v]).run Tryz.prog w=.ok (.value v) w:=by
 rw [run_callFunc_extern (P:=Tryz.prog) (fn:=Tryz.f314) (e:=Extern.AbiNoEscape.same) (by kernel_rfl) (by kernel_rfl) rfl (by kernel_rfl) (by kernel_rfl)]
 rfl
theorem xn {h:ah} {b:Nat} {v:Value} {bs:List UInt8} (r:Bl h b v bs) :
   ag Tryz.prog 303 ⟨[.pointer (some ⟨b,0,none⟩)]⟩ h fun u h'=>u=.tuple ⟨[]⟩∧h'[b]?=some (.cells ⟨[.pointer (some ⟨b,0,none⟩),v]⟩ 344 (0,0))∧Ext (fun k=>k=b) h h':=by
 obtain ⟨⟨p,hb,rfl | rfl⟩,ho,_⟩:=r
 · obtain ⟨A,c,rfl,_⟩:=ho.slice
   refine calls [(0,_)] Tryz.func303 rfl Tryz.ntmps303 rfl ⟨rfl,trivial⟩ ?_
   refine G2 ?_;refine WL.step (ae rfl) rfl rfl rfl (Go ?_);refine Ld ?_;refine WL.step (eP Tryz.underlying342 rfl rfl) rfl rfl rfl ?_;refine Gn ?_;refine Gs [(0,_),(6,_)] ?_
   refine aJ 1 2 ?_ TT.mk
   all_goals (refine ax 1 ?_)
   refine WC.region (Go ?_);refine WL.step (rh Tryz.underlying342 Tryz.underlying215 (show Tryz.prog.info? 344=some Tryz.t344 by kernel_rfl) (by decide) rfl (by assumption) (Nat.le_of_ble_eq_true rfl)) rfl rfl rfl ?_
   refine WL.step (wH (fun w=>zY _ w) rfl) rfl rfl rfl ?_
   refine WL.step (n9 Tryz.underlying215 Tryz.underlying342 (show Tryz.prog.info? 344=some Tryz.t344 by kernel_rfl) rfl (by assumption) (by kernel_rfl)) rfl rfl rfl ?_
   refine WL.step (ae rfl) rfl rfl rfl (Go ?_);refine WL.az (aC Tryz.sizeOf342 rfl rfl (by assumption) (Nat.le_of_ble_eq_true rfl) rfl rfl) rfl rfl ?_
   rintro _ h1 ⟨aQ,ay⟩
   refine Gn ?_;refine Gn ?_
   refine fa [] trivial ?_
   exact ⟨rfl,aQ,ay⟩
 · obtain ⟨A,c,rfl,_⟩:=ho.slice
   refine calls [(0,_)] Tryz.func303 rfl Tryz.ntmps303 rfl ⟨rfl,trivial⟩ ?_
   refine G2 ?_;refine WL.step (ae rfl) rfl rfl rfl (Go ?_);refine Ld ?_;refine WL.step (eP Tryz.underlying342 rfl rfl) rfl rfl rfl ?_;refine Gn ?_;refine Gs [(0,_),(6,_)] ?_
   refine aJ 1 2 ?_ TT.mk
   all_goals (refine ax 2 ?_)
   refine G2 ?_;refine WL.step (ae rfl) rfl rfl rfl (Go ?_);refine Ld ?_;refine Go ?_;refine WL.step (yp Tryz.underlying342 (show Tryz.prog.info? 344=some Tryz.t344 by kernel_rfl) rfl rfl) rfl rfl rfl ?_
   refine Gn ?_;refine Gs [(19,_)] ?_
   refine aJ 3 4 ?_ TT.mk
   all_goals (refine ax 4 ?_)
   refine WC.skip ?_;refine Gn ?_
   refine fa [] trivial ?_
   exact ⟨rfl,hb,.refl _ _⟩
theorem oP {h:ah} {b:Nat} {v:Value} {bs:List UInt8} (r:Bl h b v bs) (c:UInt8) (hm:bs.length≤1000000) :
   ag Tryz.prog 277 ⟨[.pointer (some ⟨b,0,none⟩),By c]⟩ h fun u h'=>u=.nilIface∧∃ v',Bl h' b v' (bs++[c])∧Ext (fun k=>k=b∨v.ownBlock=some k) h h'∧∀ k,v'.ownBlock=some k→v.ownBlock=some k∨h.size≤k:=by
 have r0:=r
 obtain ⟨⟨p,hb,_⟩,ho,_⟩:=r
 obtain ⟨A,c0,rfl,_⟩:=ho.slice
 have hne:(Value.slice A bs.length c0).ownBlock ≠ some b:=bV ho hb (by decide)
 refine calls [(0,_),(1,_)] Tryz.func277 rfl Tryz.ntmps277 rfl ⟨rfl,rfl,trivial⟩ ?_
 refine G2 ?_;refine G2 ?_;refine WL.call (vs:=[_]) rfl Tryz.call303 rfl (xn r0) rfl rfl rfl ?_
 rintro _ h1 ⟨rfl,aQ,ay⟩
 have fE:=ho.ext ay (fun k hk e=>hne (by rw [hk,e]))
 refine Gn ?_;refine G2 ?_;refine WL.step (ae rfl) rfl rfl rfl (Go ?_);refine Ld ?_;refine Go ?_;refine WL.ai (aw (vs:=[_]) (cs:=[_]) (fun | [a0]=>[a0] | _=>[]) Tryz.underlying23 rfl rfl (by kernel_rfl)) rfl rfl rfl ?_
 rintro _ h3 ⟨b3,rfl,gb,bn,aP⟩
 have dE:=fE.ext aP (fun _ _=>aO)
 have pP:=aP.obj aQ aO
 refine WL.ai (aT (sz:=1) (bytes:=1) rfl Tryz.underlying23 (show Tryz.prog.info? 5=some Tryz.t5 by kernel_rfl) rfl rfl rfl rfl (by decide) rfl rfl dE (bz bn rfl) (by simp [Value.oneCell']) (by simp only [maxLen];omega) (by omega)) rfl rfl rfl ?_
 rintro v4 h4 ⟨fF,aW,pT⟩
 obtain ⟨A4,c4,rfl,_⟩:=fF.slice
 have bx:=aW.obj pP (fun e=>hne e)
 refine WL.step (ae rfl) rfl rfl rfl (Go ?_);refine WL.az (aC Tryz.sizeOf23 rfl rfl bx (Nat.le_of_ble_eq_true rfl) rfl rfl) rfl rfl ?_
 rintro _ h5 ⟨bT,aN⟩
 refine Gn ?_;refine Gs [] ?_;refine G2 ?_;refine Gt ?_
 exact ⟨rfl,_,⟨⟨_,bT,.inr rfl⟩,by simpa using fF.ext aN (fun k hk e=>bV fF bx (by decide) (by rw [hk,e])),by simp⟩,(((ay.mono (fun k _ e=>.inl e)).trans (aP.mono (fun k _ e=>e.elim))).trans' aW (fun k _ e=>.inr e)).trans' aN (fun k _ e=>.inl e),tq pT (Nat.le_trans ay.size aP.size)⟩
theorem jM {h:ah} {b:Nat} {v:Value} {bs:List UInt8} (r:Bl h b v bs) (hm:bs.length≤1000000) :
   ag Tryz.prog 278 ⟨[.pointer (some ⟨b,0,none⟩)]⟩ h fun u h'=>u=St bs∧Ext (fun k=>v.ownBlock=some k) h h':=by
 obtain ⟨⟨p,hb,_⟩,ho,hnn⟩:=r
 rcases ho with ⟨_,⟨rfl,h0⟩ | ⟨g,cap,cur,rfl,hg,hn,hcm,hcs,hct⟩⟩
 · obtain rfl:=List.eq_nil_of_length_eq_zero h0
   refine calls [(0,_)] Tryz.func278 rfl Tryz.ntmps278 rfl ⟨rfl,trivial⟩ ?_
   refine G2 ?_;refine WC.seq ?_;refine WC.kD 10 dk (by kernel_rfl) ?_
   show WS _ _ _ [_,_,_,_,_,_,_,_,_,_] _ _ _
   refine WS.step (ak rfl) rfl rfl rfl ?_;refine WS.step (ae rfl) rfl rfl rfl ?_;refine WS.step (ad rfl Tryz.underlying344 rfl Tryz.sizeOf23) rfl rfl rfl ?_;refine WS.step (aA Tryz.isAgg23 rfl (by first | assumption | exact aa (by assumption) rfl)) rfl rfl rfl ?_
   refine WS.step (n7 rfl) rfl rfl rfl ?_;refine WS.step (ak rfl) rfl rfl rfl ?_;refine WS.step (ae rfl) rfl rfl rfl ?_;refine WS.step (ad rfl Tryz.underlying344 rfl Tryz.sizeOf23) rfl rfl rfl ?_;refine WS.step (aA Tryz.isAgg23 rfl (by first | assumption | exact aa (by assumption) rfl)) rfl rfl rfl ?_
   refine WS.step (cu rfl Tryz.underlying23 rfl) rfl rfl rfl ?_;refine WS.nil ?_
   show WL _ _ _ [_,_] _ _ _
   refine WL.ai (kH rfl rfl rfl) rfl rfl rfl ?_
   rintro _ hz ⟨rfl,_⟩
   subst hz
   refine WL.step (aR rfl) rfl rfl rfl ?_;refine WL.nil ?_;refine Gn ?_;refine Gs [(2,_)] ?_;refine Gt ?_
   exact ⟨rfl,.refl _ _⟩
 · have hg':h[g]?=some (.cells ⟨cur.toList⟩ 5 (0,0)):=hg
   by_cases Hj:cap=0
   · have h0:bs=[]:=List.eq_nil_of_length_eq_zero (by omega)
     cases hnn h0
   ·
     refine calls [(0,_)] Tryz.func278 rfl Tryz.ntmps278 rfl ⟨rfl,trivial⟩ ?_
     refine G2 ?_;refine WC.seq ?_;refine WC.kD 10 dk (by kernel_rfl) ?_
     show WS _ _ _ [_,_,_,_,_,_,_,_,_,_] _ _ _
     refine WS.step (ak rfl) rfl rfl rfl ?_;refine WS.step (ae rfl) rfl rfl rfl ?_;refine WS.step (ad rfl Tryz.underlying344 rfl Tryz.sizeOf23) rfl rfl rfl ?_;refine WS.step (aA Tryz.isAgg23 rfl (by first | assumption | exact aa (by assumption) rfl)) rfl rfl rfl ?_
     refine WS.step (pG rfl (by omega)) rfl rfl rfl ?_
     refine WS.step (ak rfl) rfl rfl rfl ?_;refine WS.step (ae rfl) rfl rfl rfl ?_;refine WS.step (ad rfl Tryz.underlying344 rfl Tryz.sizeOf23) rfl rfl rfl ?_;refine WS.step (aA Tryz.isAgg23 rfl (by first | assumption | exact aa (by assumption) rfl)) rfl rfl rfl ?_
     refine WS.step (cu rfl Tryz.underlying23 rfl) rfl rfl rfl ?_;refine WS.nil ?_
     show WL _ _ _ [_,_] _ _ _
     refine WL.ai (lv rfl Tryz.underlying365 (by kernel_rfl) rfl rfl rfl hg' (by simpa using hct) (by unfold maxLen;omega)) rfl rfl rfl ?_
     rintro _ h1 ⟨rfl,ay⟩
     refine WL.step (aR rfl) rfl rfl rfl ?_;refine WL.nil ?_;refine Gn ?_;refine Gs [(2,_)] ?_;refine Gt ?_
     exact ⟨rfl,ay.mono (fun k _ e=>by rw [e];rfl)⟩
theorem oQ {h:ah} (m:Nat) (hm:m≤9223372036854775808) :
   ag Tryz.prog 276 ⟨[In (-(m:Int))]⟩ h fun u h'=>Own h' u 5 1 (db m).length (bu (db m))∧Ext No h h'∧∀ k,u.ownBlock=some k→h.size≤k:=by
 have hlm:=iv m hm
 refine calls [(0,_)] Tryz.func276 rfl Tryz.ntmps276 rfl ⟨rfl,trivial⟩ ?_
 refine G2 ?_;refine G2 ?_;refine WC.block ?_;refine WC.bC (X:=List UInt8 × Value × Nat) (fun x=>([(3,x.2.1),(0,In (-(x.2.2:Int)))]:Fr)) [] (fun x h'=>x.2.2≤m∧x.1++db x.2.2=db m∧Own h' x.2.1 5 1 x.1.length (bu x.1)∧Ext No h h'∧∀ k,x.2.1.ownBlock=some k→h.size≤k) (fun x=>x.2.2) (([],.slice none 0 0,m)) ⟨rfl,rfl,trivial⟩ (by exact ⟨Nat.le_refl _,rfl,Own.nil _ _ _,.refl _ _,by simp [Value.ownBlock]⟩) ?_
 rintro ⟨out,v1,q⟩ h1 ⟨hq,hout,fE,ay,fM⟩
 simp only at hq hout fE fM
 obtain ⟨A1,c1,rfl,_⟩:=fE.slice
 have hlo:=congrArg List.length hout
 rw [List.length_append] at hlo
 have hpos:=zX q
 have e1:=uj q
 have e2:=uk q
 refine WC.sub [(0,_),(3,_)] ⟨rfl,rfl,trivial⟩ ?_
 dsimp only
 refine WC.block ?_;refine G2 ?_;refine WL.step (yo rfl rfl (by decide)) rfl rfl rfl ?_
 rw [e2]
 refine WL.step (fu rfl rfl (by omega)) rfl rfl rfl ?_
 refine WL.step (oE Tryz.underlying3 Tryz.underlying5 rfl (by omega)) rfl rfl rfl ?_
 rw [show (48 - -((q % 10:Nat):Int))=48+(q % 10:Nat) by omega,← F2]
 refine WL.ai (aw (vs:=[_]) (cs:=[_]) (fun | [a0]=>[a0] | _=>[]) Tryz.underlying23 rfl rfl (by kernel_rfl)) rfl rfl rfl ?_
 rintro _ h3 ⟨b3,rfl,gb,bn,aP⟩
 refine WL.ai (aT (sz:=1) (bytes:=1) rfl Tryz.underlying23 (show Tryz.prog.info? 5=some Tryz.t5 by kernel_rfl) rfl rfl rfl rfl (by decide) rfl rfl (fE.ext aP (fun _ _=>aO)) (bz bn rfl) (by simp [Value.oneCell']) (by simp only [maxLen];omega) (by omega)) rfl rfl rfl ?_
 rintro v4 h4 ⟨fF,aW,pT⟩
 have vK:=bR pT fM (by have:=ay.size;have:=aP.size;omega)
 have LI:=(ay.trans aP).trans' aW (fun q hq e=>by have:=fM q e;omega)
 refine Go ?_;refine Gs [(0,_),(3,_)] ?_;refine G2 ?_;refine WL.step (jl rfl rfl (by decide) (kF (by omega) (by decide))) rfl rfl rfl ?_
 rw [e1]
 refine WL.step (aR rfl) rfl rfl rfl ?_;refine Gn ?_;refine G2 ?_
 refine aJ 1 2 (Hb.mk fun hb=>?_) (Hb.mk fun hb=>?_)
 all_goals try (
 refine ax 1 ?_
 refine G2 ?_;refine Gs [(2,_)] ?_;refine Gt ?_
 exact ⟨by rw [← hout,mR (m:=q) (by omega)];have e9:q % 10=q:=Nat.mod_eq_of_lt (by omega);rw [e9] at fF;simpa using fF,LI,vK⟩
 skip)
 all_goals (refine ax 2 ?_)
 refine WC.skip ?_;refine Gn ?_
 exact ⟨(out++[UInt8.ofNat (48+q % 10)],_,q / 10),⟨rfl,rfl,trivial⟩,(by exact ⟨by simp;omega,by rw [← hout,qf (m:=q) (by omega)];simp,by simpa using fF,LI,vK⟩),(by simp;omega)⟩
theorem zZ {l:List UInt8} {j:Nat} {y:UInt8} (hy:l[j]?=some y):(bu l)[j]?=some (By y):=by simp [hy]
theorem oR {l:List UInt8} {j:Nat} {y:UInt8} (hy:l[j]?=some y):(l.drop j).reverse=(l.drop (j+1)).reverse++[y]:=by
 rw [List.drop_eq_getElem?_toList_append,hy]
 simp
theorem vL {h:ah} {b:Nat} {v:Value} {bs:List UInt8} (r:Bl h b v bs):b < h.size:=by
 obtain ⟨⟨p,hb,_⟩,_⟩:=r
 exact aj hb
theorem Aa {h:ah} (m:Nat) (hm:m≤9223372036854775807) :
   ag Tryz.prog 246 ⟨[In m]⟩ h fun u h'=>u=St (dw m)∧Ext No h h':=by
 have ed:dw (m:Int)=x7 m:=by unfold dw;rw [if_neg (by omega)];rfl
 have hlm:=iv m (by omega)
 refine calls [(0,_)] Tryz.func246 rfl Tryz.ntmps246 rfl ⟨rfl,trivial⟩ ?_
 refine G2 ?_;refine G2 ?_;refine G3 ?_;refine Gs [(0,_),(3,_),(10,_)] ?_
 refine aJ 1 2 ?_ TT.mk
 all_goals (refine ax 1 ?_)
 refine WC.region (Go ?_);refine WL.step (pF rfl (by omega)) rfl rfl rfl (Go ?_)
 refine Gn ?_;refine G2 ?_;refine WL.call (vs:=[_]) rfl Tryz.call276 rfl (oQ m (by omega)) rfl rfl rfl ?_
 rintro v4 h4 ⟨fF,aW,vK⟩
 obtain ⟨A4,c4,rfl,_⟩:=fF.slice
 refine Go ?_;refine Gs [(3,_),(4,_)] ?_;refine G3 ?_
 refine aJ 3 4 ?_ TT.mk
 all_goals (refine ax 4 ?_)
 refine WC.skip ?_;refine Gn ?_;refine WC.sr ?_;refine WL.ai (av (fun w=>Tryz.zeroValue344 w)) rfl rfl rfl ?_
 rintro _ h5 ⟨b5,rfl,pQ,bT,aN⟩
 have hob:=fF.ext aN (fun _ _=>aO)
 have hfb:∀ k,(Value.slice A4 (db m).length c4).ownBlock=some k→k < b5:=fun k e=>by have:=fF.lt e;omega
 refine Gn ?_;refine G3 ?_;refine Gs [(4,_),(5,_),(6,_)] ?_;refine WC.block ?_;refine WC.bC (X:=Nat × Value) (fun x=>([(6,In ((x.1:Int) - 1))]:Fr)) [(4,_),(5,_)] (fun x h'=>x.1≤(db m).length∧Bl h' b5 x.2 ((db m).drop x.1).reverse∧Own h' (Value.slice A4 (db m).length c4) 5 1 (db m).length (bu (db m))∧Ext No h h'∧h.size≤b5∧∀ k,x.2.ownBlock=some k→b5 < k) (fun x=>x.1) (((db m).length,.slice none 0 0)) ⟨rfl,rfl,rfl,trivial⟩ (by exact ⟨Nat.le_refl _,by simpa [Bl] using (⟨⟨_,bT,.inl rfl⟩,Own.nil _ _ _⟩:_∧_),hob,aW.trans aN,Nat.le_trans aW.size pQ,by simp [Value.ownBlock]⟩) ?_
 rintro ⟨k,v6⟩ h6 ⟨hk,hbl,fN,aM,oG,im⟩
 simp only at hk hbl im
 refine WC.sub [(6,_),(4,_),(5,_)] ⟨rfl,rfl,rfl,trivial⟩ ?_
 dsimp only
 refine G3 ?_
 refine aJ 5 6 (Hb.mk fun hb=>?_) (Hb.mk fun hb=>?_)
 all_goals try (
 refine ax 5 ?_
 refine WC.skip ?_
 skip)
 all_goals try (
 refine ax 6 ?_
 refine WC.exit ?_
 repeat' (with_reducible first | refine aU ?_ | refine aG rfl ?_ | refine aI ?_ | refine aL ?_ | refine aS ?_)
 refine Br.out (i:=1000) ?_
 skip)
 all_goals (refine Gn ?_;first | refine Br.ab ?_ | refine WC.seq ?_)
 all_goals (first | refine Br.ab ?_ | refine WC.block ?_)
 all_goals (
  first
    | (refine Br.ab ?_)
    | (obtain ⟨bL,oL,hA,hbL,hat⟩:=Rd.at_ fN.rd (by omega)
       obtain ⟨j,rfl⟩:∃ j,k=j+1:=⟨k - 1,by omega⟩
       obtain ⟨y,hy⟩:∃ y,(db m)[j]?=some y:=⟨_,List.getElem?_eq_getElem (by omega)⟩
       have hc:=hat.get (p:=oL+j * 1) (v:=By y) j (zZ hy) (by omega)
       have e8:(((j+1:Nat):Int) - 1)=(j:Nat):=by omega
       rw [e8]))
 all_goals (first | refine Br.ab ?_ | refine WC.region ?_)
 all_goals (refine Go ?_;first | refine Br.ab ?_ | (refine WL.step (aF Tryz.underlying23 Tryz.sizeOf5 rfl rfl rfl (by omega) (by first | rfl | assumption)) rfl rfl rfl ?_))
 all_goals (first | refine Br.ab ?_ | refine Ld ?_)
 all_goals (
  first
    | (refine Br.ab ?_)
    | (refine WL.call (vs:=[_,_]) rfl Tryz.call277 rfl (oP hbl y (by simp;omega)) rfl rfl rfl ?_
       rintro _ h7 ⟨rfl,v7,F3,bh,Kl⟩))
 all_goals (refine Gn ?_;first | refine Br.ab ?_ | refine Gs [(4,_),(5,_),(6,_)] ?_)
 all_goals (first | refine Br.ab ?_ | refine WC.region ?_)
 all_goals (refine Go ?_;first | refine Br.ab ?_ | (exact ⟨(j,_),⟨rfl,rfl,rfl,trivial⟩,(by exact ⟨by simp;omega,by rw [oR hy];exact F3,fN.ext bh (fun q hq e=>e.elim (fun e=>by have:=hfb q hq;omega) (fun e=>by have:=hfb q hq;have:=im q e;omega)),aM.trans' bh (fun q hq e=>e.elim (fun e=>by omega) (fun e=>by have:=im q e;omega)),oG,fun q hq=>(Kl q hq).elim (im q) (fun e=>Nat.lt_of_lt_of_le (vL hbl) e)⟩),(by simp)⟩))
 try (refine Br.mk (i:=1000) ?_)
 refine Gn ?_;refine Gs [(5,_)] ?_;refine WC.sr ?_;refine WL.call (vs:=[_]) rfl Tryz.call278 rfl (jM hbl (by simp;omega)) rfl rfl rfl ?_
 rintro _ h8 ⟨rfl,bD⟩
 refine Go ?_;refine Gt ?_
 exact ⟨by rw [show k=0 by omega,ed];simp [x7],aM.trans' bD (fun q hq e=>by have:=im q e;omega)⟩
theorem Ab {h:ah} (m:Nat) (h0:0 < m) (hm:m≤9223372036854775808) :
   ag Tryz.prog 246 ⟨[In (-(m:Int))]⟩ h fun u h'=>u=St (dw (-(m:Int)))∧Ext No h h':=by
 have ed:dw (-(m:Int))=45 :: x7 m:=by unfold dw;rw [if_pos (by omega)];simp
 have hlm:=iv m (by omega)
 refine calls [(0,_)] Tryz.func246 rfl Tryz.ntmps246 rfl ⟨rfl,trivial⟩ ?_
 refine G2 ?_;refine G2 ?_;refine G3 ?_;refine Gs [(0,_),(3,_),(10,_)] ?_
 refine aJ 1 2 ?_ TT.mk
 all_goals (refine ax 2 ?_)
 refine WC.skip ?_;refine Gn ?_;refine G2 ?_;refine WL.call (vs:=[_]) rfl Tryz.call276 rfl (oQ m (by omega)) rfl rfl rfl ?_
 rintro v4 h4 ⟨fF,aW,vK⟩
 refine Go ?_;refine Gs [(3,_),(4,_)] ?_;refine G3 ?_
 refine aJ 3 4 ?_ TT.mk
 all_goals (refine ax 3 ?_)
 refine WC.region (Go ?_);refine WL.ai (aw (vs:=[_]) (cs:=[_]) (fun | [a0]=>[a0] | _=>[]) Tryz.underlying23 rfl rfl (by kernel_rfl)) rfl rfl rfl ?_
 rintro _ h3 ⟨b3,rfl,gb,bn,aP⟩
 refine WL.ai (aT (sz:=1) (bytes:=1) rfl Tryz.underlying23 (show Tryz.prog.info? 5=some Tryz.t5 by kernel_rfl) rfl rfl rfl rfl (by decide) rfl rfl (fF.ext aP (fun _ _=>aO)) (bz bn rfl) (by simp [Value.oneCell']) (by simp only [maxLen];omega) (by omega)) rfl rfl rfl ?_
 rintro v7 h7 ⟨gM,bh,Eu⟩
 have Hk:=bR Eu vK (by have:=aW.size;have:=aP.size;omega)
 have yT:=(aW.trans aP).trans' bh (fun q hq e=>by have:=vK q e;omega)
 have Nc:bu (db m)++[.int .u8 45]=bu (db m++[45]):=by simp
 have Nd:(db m).length+1=(db m++[45]).length:=by simp
 rw [Nc,Nd] at gM
 have hlf:(db m++[45]).length≤21:=by omega
 obtain ⟨A7,c7,rfl,_⟩:=gM.slice
 refine Go ?_;refine Gn ?_;refine WC.sr ?_;refine WL.ai (av (fun w=>Tryz.zeroValue344 w)) rfl rfl rfl ?_
 rintro _ h5 ⟨b5,rfl,pQ,bT,aN⟩
 have hob:=gM.ext aN (fun _ _=>aO)
 have hfb:∀ k,(Value.slice A7 (db m++[45]).length c7).ownBlock=some k→k < b5:=fun k e=>by have:=gM.lt e;omega
 refine Gn ?_;refine G3 ?_;refine Gs [(4,_),(5,_),(6,_)] ?_;refine WC.block ?_;refine WC.bC (X:=Nat × Value) (fun x=>([(6,In ((x.1:Int) - 1))]:Fr)) [(4,_),(5,_)] (fun x h'=>x.1≤(db m++[45]).length∧Bl h' b5 x.2 ((db m++[45]).drop x.1).reverse∧Own h' (Value.slice A7 (db m++[45]).length c7) 5 1 (db m++[45]).length (bu (db m++[45]))∧Ext No h h'∧h.size≤b5∧∀ k,x.2.ownBlock=some k→b5 < k) (fun x=>x.1) (((db m++[45]).length,.slice none 0 0)) ⟨rfl,rfl,rfl,trivial⟩ (by exact ⟨Nat.le_refl _,by simpa [Bl] using (⟨⟨_,bT,.inl rfl⟩,Own.nil _ _ _⟩:_∧_),hob,yT.trans aN,Nat.le_trans yT.size pQ,by simp [Value.ownBlock]⟩) ?_
 rintro ⟨k,v6⟩ h6 ⟨hk,hbl,fN,aM,oG,im⟩
 simp only at hk hbl im
 refine WC.sub [(6,_),(4,_),(5,_)] ⟨rfl,rfl,rfl,trivial⟩ ?_
 dsimp only
 refine G3 ?_
 refine aJ 5 6 (Hb.mk fun hb=>?_) (Hb.mk fun hb=>?_)
 all_goals try (
 refine ax 5 ?_
 refine WC.skip ?_
 skip)
 all_goals try (
 refine ax 6 ?_
 refine WC.exit ?_
 repeat' (with_reducible first | refine aU ?_ | refine aG rfl ?_ | refine aI ?_ | refine aL ?_ | refine aS ?_)
 refine Br.out (i:=1000) ?_
 skip)
 all_goals (refine Gn ?_;first | refine Br.ab ?_ | refine WC.seq ?_)
 all_goals (first | refine Br.ab ?_ | refine WC.block ?_)
 all_goals (
  first
    | (refine Br.ab ?_)
    | (obtain ⟨bL,oL,hA,hbL,hat⟩:=Rd.at_ fN.rd (by omega)
       obtain ⟨j,rfl⟩:∃ j,k=j+1:=⟨k - 1,by omega⟩
       obtain ⟨y,hy⟩:∃ y,(db m++[45])[j]?=some y:=⟨_,List.getElem?_eq_getElem (by omega)⟩
       have hc:=hat.get (p:=oL+j * 1) (v:=By y) j (zZ hy) (by omega)
       have e8:(((j+1:Nat):Int) - 1)=(j:Nat):=by omega
       rw [e8]))
 all_goals (first | refine Br.ab ?_ | refine WC.region ?_)
 all_goals (refine Go ?_;first | refine Br.ab ?_ | (refine WL.step (aF Tryz.underlying23 Tryz.sizeOf5 rfl rfl rfl (by omega) (by first | rfl | assumption)) rfl rfl rfl ?_))
 all_goals (first | refine Br.ab ?_ | refine Ld ?_)
 all_goals (
  first
    | (refine Br.ab ?_)
    | (refine WL.call (vs:=[_,_]) rfl Tryz.call277 rfl (oP hbl y (by simp;omega)) rfl rfl rfl ?_
       rintro _ h7 ⟨rfl,v7,F3,bh,Kl⟩))
 all_goals (refine Gn ?_;first | refine Br.ab ?_ | refine Gs [(4,_),(5,_),(6,_)] ?_)
 all_goals (first | refine Br.ab ?_ | refine WC.region ?_)
 all_goals (refine Go ?_;first | refine Br.ab ?_ | (exact ⟨(j,_),⟨rfl,rfl,rfl,trivial⟩,(by exact ⟨by simp;omega,by rw [oR hy];exact F3,fN.ext bh (fun q hq e=>e.elim (fun e=>by have:=hfb q hq;omega) (fun e=>by have:=hfb q hq;have:=im q e;omega)),aM.trans' bh (fun q hq e=>e.elim (fun e=>by omega) (fun e=>by have:=im q e;omega)),oG,fun q hq=>(Kl q hq).elim (im q) (fun e=>Nat.lt_of_lt_of_le (vL hbl) e)⟩),(by simp)⟩))
 try (refine Br.mk (i:=1000) ?_)
 refine Gn ?_;refine Gs [(5,_)] ?_;refine WC.sr ?_;refine WL.call (vs:=[_]) rfl Tryz.call278 rfl (jM hbl (by simp;omega)) rfl rfl rfl ?_
 rintro _ h8 ⟨rfl,bD⟩
 refine Go ?_;refine Gt ?_
 exact ⟨by rw [show k=0 by omega,ed];simp [x7],aM.trans' bD (fun q hq e=>by have:=im q e;omega)⟩
theorem gS {h:ah} (n:Int) (h0 : -9223372036854775808≤n) (h1:n≤9223372036854775807) :
   ag Tryz.prog 246 ⟨[In n]⟩ h fun u h'=>u=St (dw n)∧Ext No h h':=by
 by_cases hp:0≤n
 · obtain ⟨m,rfl⟩:=Int.eq_ofNat_of_zero_le hp
   exact Aa m (by omega)
 · obtain ⟨m,rfl⟩:∃ m:Nat,n = -(m:Int):=⟨n.natAbs,by omega⟩
   exact Ab m (by omega) (by omega)
def jZ (n:List UInt8):List UInt8:=[34]++n++[34]
def iG (t n w:List UInt8):List UInt8:=t++[32]++jZ n++[32]++w
def nC (n:List UInt8):List UInt8:=if n=[] then ([117,110,110,97,109,101,100,32,112,114,101,112,97,114,101,100,32,115,116,97,116,101,109,101,110,116,32,100,111,101,115,32,110,111,116,32,101,120,105,115,116]:List UInt8) else iG ([112,114,101,112,97,114,101,100,32,115,116,97,116,101,109,101,110,116]:List UInt8) n ([100,111,101,115,32,110,111,116,32,101,120,105,115,116]:List UInt8)
def vM (n:List UInt8):List UInt8:=iG ([112,114,101,112,97,114,101,100,32,115,116,97,116,101,109,101,110,116]:List UInt8) n ([97,108,114,101,97,100,121,32,101,120,105,115,116,115]:List UInt8)
def vN (n:List UInt8):List UInt8:=([44,32,98,117,116,32,112,114,101,112,97,114,101,100,32,115,116,97,116,101,109,101,110,116,32]:List UInt8)++jZ n++([32,114,101,113,117,105,114,101,115,32]:List UInt8)
def qg (p:Int) (n:List UInt8) (w:Int):List UInt8:=([98,105,110,100,32,109,101,115,115,97,103,101,32,115,117,112,112,108,105,101,115,32]:List UInt8)++dw p++([32,112,97,114,97,109,101,116,101,114,115]:List UInt8)++vN n++dw w
theorem lN (n:List UInt8):(jZ n).length=n.length+2:=by simp [jZ]
theorem r8 (n:List UInt8):(vN n).length=n.length+37:=by simp [vN,lN]
theorem oT {h:ah} (n:List UInt8) (hn:n.length≤1000000):ag Tryz.prog 274 ⟨[St n]⟩ h fun u h'=>u=St (jZ n)∧h'=h:=by
 refine calls [(0,_)] Tryz.func274 rfl Tryz.ntmps274 rfl ⟨rfl,trivial⟩ ?_
 refine G2 ?_;refine G2 ?_;refine WL.step (dW rfl rfl (by first | (simp only [List.length_append,List.length_cons,List.length_nil];omega) | (simp;omega))) rfl rfl rfl ?_;refine WL.step (dW rfl rfl (by first | (simp only [List.length_append,List.length_cons,List.length_nil];omega) | (simp;omega))) rfl rfl rfl (Go ?_);refine Gs [(2,_)] ?_;refine Gt ?_
 exact ⟨rfl,rfl⟩
theorem kT {h:ah} (t n w:List UInt8) (ht:t.length≤100) (hn:n.length≤100000) (hw:w.length≤100):ag Tryz.prog 243 ⟨[St t,St n,St w]⟩ h fun u h'=>u=St (iG t n w)∧Ext No h h':=by
 have hq:=lN n
 refine calls [(0,_),(1,_),(2,_)] Tryz.func243 rfl Tryz.ntmps243 rfl ⟨rfl,rfl,rfl,trivial⟩ ?_
 refine G2 ?_;refine G2 ?_;refine WL.call (vs:=[_]) rfl Tryz.call274 rfl (oT n (by omega)) rfl rfl rfl ?_
 rintro _ hz ⟨rfl,_⟩
 subst hz
 refine Go ?_;refine WL.ai (aw (vs:=[_,_,_]) (cs:=[_,_,_]) (fun | [a0,a1,a2]=>[a0,a1,a2] | _=>[]) Tryz.underlying249 rfl rfl (by kernel_rfl)) rfl rfl rfl ?_
 rintro _ h1 ⟨b1,rfl,bO,aQ,ay⟩
 refine WL.call (vs:=[_,_]) rfl Tryz.call273 rfl (Io t (jZ n) w aQ (by omega)) rfl rfl rfl ?_
 rintro _ h2 ⟨rfl,aH⟩
 refine Go ?_;refine Gs [(6,_)] ?_;refine Gt ?_
 exact ⟨rfl,ay.trans aH⟩
theorem r9 {h:ah} (n:List UInt8) (hn:n.length≤100000):ag Tryz.prog 244 ⟨[St n]⟩ h fun u h'=>u=St (nC n)∧Ext No h h':=by
 by_cases h0:n=[]
 · subst h0
   refine calls [(0,_)] Tryz.func244 rfl Tryz.ntmps244 rfl ⟨rfl,trivial⟩ ?_
   refine G2 ?_;refine G3 ?_
   refine aJ 1 2 ?_ TT.mk
   all_goals (refine ax 1 ?_)
   refine G2 ?_;refine Gt ?_
   exact ⟨rfl,.refl _ _⟩
 · rw [nC,if_neg h0]
   refine calls [(0,_)] Tryz.func244 rfl Tryz.ntmps244 rfl ⟨rfl,trivial⟩ ?_
   refine G2 ?_;refine G3 ?_
   refine aJ 1 2 ?_ TT.mk
   all_goals (refine ax 2 ?_)
   refine WC.skip ?_;refine Gn ?_;refine G2 ?_;refine WL.call (vs:=[_,_,_]) rfl Tryz.call243 rfl (kT ([112,114,101,112,97,114,101,100,32,115,116,97,116,101,109,101,110,116]:List UInt8) n ([100,111,101,115,32,110,111,116,32,101,120,105,115,116]:List UInt8) (by simp) hn (by simp)) rfl rfl rfl ?_
   rintro _ h2 ⟨rfl,aH⟩
   refine Go ?_;refine Gs [(2,_)] ?_;refine Gt ?_
   exact ⟨rfl,aH⟩
theorem um {h:ah} (n:List UInt8) (hn:n.length≤100000):ag Tryz.prog 205 ⟨[St n]⟩ h fun u h'=>u=St (vM n)∧Ext No h h':=by
 refine calls [(0,_)] Tryz.func205 rfl Tryz.ntmps205 rfl ⟨rfl,trivial⟩ ?_
 refine G2 ?_;refine G2 ?_;refine WL.call (vs:=[_,_,_]) rfl Tryz.call243 rfl (kT ([112,114,101,112,97,114,101,100,32,115,116,97,116,101,109,101,110,116]:List UInt8) n ([97,108,114,101,97,100,121,32,101,120,105,115,116,115]:List UInt8) (by simp) hn (by simp)) rfl rfl rfl ?_
 rintro _ h2 ⟨rfl,aH⟩
 refine Go ?_;refine Gt ?_
 exact ⟨rfl,aH⟩
theorem uo {h:ah} (n:List UInt8) (hn:n.length≤100000):ag Tryz.prog 250 ⟨[St n]⟩ h fun u h'=>u=St (iG ([112,111,114,116,97,108]:List UInt8) n ([100,111,101,115,32,110,111,116,32,101,120,105,115,116]:List UInt8))∧Ext No h h':=by
 refine calls [(0,_)] Tryz.func250 rfl Tryz.ntmps250 rfl ⟨rfl,trivial⟩ ?_
 refine G2 ?_;refine G2 ?_;refine WL.call (vs:=[_,_,_]) rfl Tryz.call243 rfl (kT ([112,111,114,116,97,108]:List UInt8) n ([100,111,101,115,32,110,111,116,32,101,120,105,115,116]:List UInt8) (by simp) hn (by simp)) rfl rfl rfl ?_
 rintro _ h2 ⟨rfl,aH⟩
 refine Go ?_;refine Gt ?_
 exact ⟨rfl,aH⟩
theorem uq {h:ah} (n:List UInt8) (hn:n.length≤100000):ag Tryz.prog 211 ⟨[St n]⟩ h fun u h'=>u=St (iG ([99,117,114,115,111,114]:List UInt8) n ([97,108,114,101,97,100,121,32,101,120,105,115,116,115]:List UInt8))∧Ext No h h':=by
 refine calls [(0,_)] Tryz.func211 rfl Tryz.ntmps211 rfl ⟨rfl,trivial⟩ ?_
 refine G2 ?_;refine G2 ?_;refine WL.call (vs:=[_,_,_]) rfl Tryz.call243 rfl (kT ([99,117,114,115,111,114]:List UInt8) n ([97,108,114,101,97,100,121,32,101,120,105,115,116,115]:List UInt8) (by simp) hn (by simp)) rfl rfl rfl ?_
 rintro _ h2 ⟨rfl,aH⟩
 refine Go ?_;refine Gt ?_
 exact ⟨rfl,aH⟩
theorem xo {h:ah} (n:List UInt8) (hn:n.length≤100000):ag Tryz.prog 247 ⟨[St n]⟩ h fun u h'=>u=St (vN n)∧h'=h:=by
 have hq:=lN n
 refine calls [(0,_)] Tryz.func247 rfl Tryz.ntmps247 rfl ⟨rfl,trivial⟩ ?_
 refine G2 ?_;refine G2 ?_;refine WL.call (vs:=[_]) rfl Tryz.call274 rfl (oT n (by omega)) rfl rfl rfl ?_
 rintro _ hz ⟨rfl,_⟩
 subst hz
 refine WL.step (dW rfl rfl (by first | (simp only [List.length_append,List.length_cons,List.length_nil];omega) | (simp;omega))) rfl rfl rfl ?_;refine WL.step (dW rfl rfl (by first | (simp only [List.length_append,List.length_cons,List.length_nil];omega) | (simp;omega))) rfl rfl rfl (Go ?_);refine Gs [(2,_)] ?_;refine Gt ?_
 exact ⟨rfl,rfl⟩
theorem xq {h:ah} (p:Int) (n:List UInt8) (w:Int) (hn:n.length≤100000) (hp : -9223372036854775808≤p∧p≤9223372036854775807) (hw : -9223372036854775808≤w∧w≤9223372036854775807) :
   ag Tryz.prog 209 ⟨[In p,St n,In w]⟩ h fun u h'=>u=St (qg p n w)∧Ext No h h':=by
 have hq:=r8 n
 have hlp:=dt p (by omega)
 have hlw:=dt w (by omega)
 refine calls [(0,_),(1,_),(2,_)] Tryz.func209 rfl Tryz.ntmps209 rfl ⟨rfl,rfl,rfl,trivial⟩ ?_
 refine G2 ?_;refine G2 ?_;refine WL.call (vs:=[_]) rfl Tryz.call246 rfl (gS p hp.1 hp.2) rfl rfl rfl ?_
 rintro _ h1 ⟨rfl,ay⟩
 refine WL.step (dW rfl rfl (by first | (simp only [List.length_append,List.length_cons,List.length_nil];omega) | (simp;omega))) rfl rfl rfl ?_;refine WL.step (dW rfl rfl (by first | (simp only [List.length_append,List.length_cons,List.length_nil];omega) | (simp;omega))) rfl rfl rfl (Go ?_);refine WL.call (vs:=[_]) rfl Tryz.call247 rfl (xo n hn) rfl rfl rfl ?_
 rintro _ hz ⟨rfl,_⟩
 subst hz
 refine WL.step (dW rfl rfl (by first | (simp only [List.length_append,List.length_cons,List.length_nil];omega) | (simp;omega))) rfl rfl rfl (Go ?_);refine WL.call (vs:=[_]) rfl Tryz.call246 rfl (gS w hw.1 hw.2) rfl rfl rfl ?_
 rintro _ h2 ⟨rfl,aH⟩
 refine WL.step (dW rfl rfl (by first | (simp only [List.length_append,List.length_cons,List.length_nil];omega) | (simp;omega))) rfl rfl rfl (Go ?_);refine Gs [(6,_)] ?_;refine Gt ?_
 exact ⟨rfl,ay.trans aH⟩
def da (n:Int):Nat:=(min (max n 0) 1000).toNat
theorem jv (n:Int):da n≤1000:=by unfold da;omega
theorem oU {h:ah} (n:Int):ag Tryz.prog 311 ⟨[In n]⟩ h fun u h'=>u=In (da n)∧h'=h:=by
 refine calls [(0,_)] Tryz.func311 rfl Tryz.ntmps311 rfl ⟨rfl,trivial⟩ ?_
 refine G2 ?_;refine G2 ?_;refine WL.step (pE rfl rfl) rfl rfl rfl ?_;refine WL.step (kE rfl rfl) rfl rfl rfl (Go ?_);refine Gs [(2,_)] ?_;refine Gt ?_
 exact ⟨by unfold da;congr 1;omega,rfl⟩
def C5 (i:Nat):List (Bool × List UInt8):=[(false,dw i)]
theorem Ae {h:ah} (i:Nat) (hi:i≤100000):ag Tryz.prog 293 ⟨[In i]⟩ h fun u h'=>∃ l,cF h' u l∧l.map aX.pl=C5 i∧Ext No h h'∧∀ b,dy u l b→h.size≤b:=by
 have hdl:=dt i (by omega)
 refine calls [(0,_)] Tryz.func293 rfl Tryz.ntmps293 rfl ⟨rfl,trivial⟩ ?_
 refine G2 ?_;refine G2 ?_;refine WL.call (vs:=[_]) rfl Tryz.call246 rfl (gS i (by omega) (by omega)) rfl rfl rfl ?_
 rintro _ h1 ⟨rfl,ay⟩
 refine WL.ai (jS Tryz.underlying9 Tryz.underlying23 Tryz.underlying5 rfl) rfl rfl rfl ?_
 rintro _ h2 ⟨b2,c2,rfl,eS,qS,aH⟩
 refine WL.step (aD (vs:=[_]) (cs:=[_,_]) (fun | [a1]=>[(.bool false),a1] | _=>[]) rfl rfl (by kernel_rfl)) rfl rfl rfl ?_
 refine WL.ai (aw (vs:=[_]) (cs:=[_,_]) (fun | [.agg ⟨[a0,a1]⟩]=>[a0,a1] | _=>[]) Tryz.underlying40 rfl rfl (by kernel_rfl)) rfl rfl rfl ?_
 rintro _ h3 ⟨b3,rfl,gb,bn,aP⟩
 refine Go ?_;refine Gs [(2,_)] ?_;refine Gt ?_
 exact ⟨[⟨false,.slice (some ⟨b2,0,none⟩) (dw i).length c2,dw i⟩],⟨bz bn rfl,⟨by simp [reachBytes],_,_,rfl,by simp [maxLen]⟩,by simpa [aX.ok] using ⟨qS.aq aP,by unfold reachBytes;omega⟩⟩,rfl,(ay.trans aH).trans aP,by rintro b (⟨_,e⟩ | ⟨c,hc,_,e⟩);simp [Value.ownBlock] at e;have:=ay.size;have:=aH.size;omega;simp at hc;subst hc;simp [Value.ownBlock] at e;have:=ay.size;omega⟩
structure Mk (h0 h:ah) (v:Value) (L:List Rw):Prop where
 own:Own h v 40 1 L.length (L.map Rw.v)
 rows:∀ r∈L,cF h r.v r.l
 ext:Ext No h0 h
 fresh:∀ k,v.ownBlock=some k→h0.size≤k
 apart:∀ r∈L,∀ b,dy r.v r.l b→v.ownBlock ≠ some b
theorem Mk.done {h0 h:ah} {v:Value} {L:List Rw} (m:Mk h0 h v L) (hl:L.length≤100000) (hc:∃ A c,v=.slice A L.length c∧c≤maxLen):j4 h v L:=⟨m.own.rd,⟨by unfold reachBytes;omega,hc⟩,m.rows⟩
theorem Mk.next {h0 h h1 h3 h4:ah} {v v4 u:Value} {L:List Rw} {l:List aX} (m:Mk h0 h v L) (x1:Ext No h h1) (c1:cF h1 u l) (f1:∀ b,dy u l b→h.size≤b) (x3:Ext No h1 h3)
   (o4:Own h4 v4 40 1 (L.length+1) (L.map Rw.v++[u])) (x4:Ext (fun k=>v.ownBlock=some k) h3 h4) (hl:v4.ownBlock=v.ownBlock∨v4.ownBlock=some h3.size):Mk h0 h4 v4 (L++[⟨u,l⟩]):=by
 have s0:=m.ext.size
 have s1:=x1.size
 have s3:=x3.size
 have LJ:=x1.trans x3
 refine ⟨by simpa using o4,fun r hr=>?_,(m.ext.trans LJ).trans' x4 fun k hk e=>?_,bR hl m.fresh (by omega),fun r hr b hb e=>?_⟩
 · rcases List.mem_append.1 hr with hr | hr
   · exact ((m.rows r hr).aq LJ).ext x4 fun b hb e=>m.apart r hr b hb e
   · simp at hr
     subst hr
     refine (c1.aq x3).ext x4 fun b hb e=>?_
     have:=f1 b hb
     have:=m.own.lt e
     omega
 · have:=m.fresh k e;omega
 · rcases List.mem_append.1 hr with hr | hr
   · have h1:=m.apart r hr b hb
     have h2:=(m.rows r hr).lt hb
     rcases hl with hl | hl
     · exact h1 (hl▸e)
     · rw [hl] at e;simp at e;omega
   · simp at hr
     subst hr
     have h1:=f1 b hb
     have h2:=c1.lt hb
     rcases hl with hl | hl
     · rw [hl] at e
       have:=m.own.lt e
       omega
     · rw [hl] at e;simp at e;omega
theorem Mk.nil (h:ah):Mk h h (.slice none 0 0) []:=⟨Own.nil _ _ _,by simp,.refl _ _,by simp [Value.ownBlock],by simp⟩
def jN (n:Nat):List (List (Bool × List UInt8)):=(List.range n).map fun i=>C5 (i+1)
theorem ur (n:Nat):jN (n+1)=jN n++[C5 (n+1)]:=by unfold jN;rw [List.range_succ];simp
theorem lO (n:Nat):(jN n).length=n:=by simp [jN]
theorem xr {h:ah} (n:Int):ag Tryz.prog 292 ⟨[In n,.func (.func 293) #[] #[]]⟩ h fun u h'=>∃ L,j4 h' u L∧L.map Rw.pl=jN (da n)∧Ext No h h'∧∀ b,dN u L b→h.size≤b:=by
 have hh:=jv n
 refine calls [(0,_),(1,_)] Tryz.func292 rfl Tryz.ntmps292 rfl ⟨rfl,rfl,trivial⟩ ?_
 refine G2 ?_;refine G2 ?_;refine G3 ?_;refine WL.call (vs:=[_]) rfl Tryz.call311 rfl (oU n) rfl rfl rfl ?_
 rintro _ hz ⟨rfl,_⟩
 subst hz
 refine Go ?_;refine WC.block ?_;refine WC.bC (X:=Nat × Value × List Rw) (fun x=>([(5,x.2.1),(9,In (x.1:Int))]:Fr)) [(1,_),(8,_)] (fun x h'=>x.1≤da n∧Mk h h' x.2.1 x.2.2∧x.2.2.map Rw.pl=jN x.1∧∀ r∈x.2.2,∀ b,dy r.v r.l b→h.size≤b) (fun x=>da n - x.1) ((0,.slice none 0 0,[])) ⟨rfl,rfl,rfl,rfl,trivial⟩ (by exact ⟨Nat.zero_le _,Mk.nil h,rfl,by simp⟩) ?_
 rintro ⟨k,v1,L⟩ h1 ⟨hk,mk,hp,hf⟩
 simp only at hk mk hp hf
 have hL:L.length=k:=by simpa [lO] using congrArg List.length hp
 obtain ⟨A1,c1,rfl,_⟩:=mk.own.slice
 refine WC.sub [(5,_),(9,_),(1,_),(8,_)] ⟨rfl,rfl,rfl,rfl,trivial⟩ ?_
 dsimp only
 refine G2 ?_;refine WC.seq ?_
 refine aJ 1 2 (Hb.mk fun hb=>?_) (Hb.mk fun hb=>?_)
 all_goals try (
 refine ax 1 ?_
 refine WC.skip ?_
 skip)
 all_goals try (
 refine ax 2 ?_
 refine WC.exit ?_
 repeat' (with_reducible first | refine aU ?_ | refine aG rfl ?_ | refine aI ?_ | refine aL ?_ | refine aS ?_)
 refine Br.out (i:=1000) ?_
 skip)
 all_goals (refine Gn ?_;first | refine Br.ab ?_ | refine WC.seq ?_)
 all_goals (first | refine Br.ab ?_ | refine WC.block ?_)
 all_goals (first | refine Br.ab ?_ | refine WC.sr ?_)
 all_goals (refine Go ?_;first | refine Br.ab ?_ | refine WC.region ?_)
 all_goals (refine Go ?_)
 all_goals (
  first
    | (refine Br.ab ?_)
    | (have e1:((k:Int)+1)=((k+1:Nat):Int):=by omega
       rw [e1]))
 all_goals (
  first
    | (refine Br.ab ?_)
    | (refine WL.dT (vs:=[_]) rfl rfl Tryz.call293 rfl (Ae (k+1) (by omega)) rfl rfl rfl ?_
       rintro u2 h2 ⟨l2,mJ,HX,aH,eN⟩))
 all_goals (first | refine Br.ab ?_ | (obtain ⟨A2,c2,rfl⟩:∃ A c,u2=.slice A l2.length c:=(by obtain ⟨_,⟨_,A,c,e,_⟩,_⟩:=mJ;exact ⟨A,c,e⟩)))
 all_goals (
  first
    | (refine Br.ab ?_)
    | (refine WL.ai (aw (vs:=[_]) (cs:=[_]) (fun | [a0]=>[a0] | _=>[]) Tryz.underlying271 rfl rfl (by kernel_rfl)) rfl rfl rfl ?_
       rintro _ h3 ⟨b3,rfl,gb,bn,aP⟩))
 all_goals (
  first
    | (refine Br.ab ?_)
    | (refine WL.ai (aT (sz:=1) (bytes:=24) rfl Tryz.underlying271 (show Tryz.prog.info? 40=some Tryz.t40 by kernel_rfl) rfl rfl rfl rfl (by decide) rfl rfl (mk.own.ext (aH.trans aP) (fun _ _=>aO)) (bz bn rfl) (by simp [Value.oneCell']) (by simp only [maxLen];omega) (by omega)) rfl rfl rfl ?_
       rintro v4 h4 ⟨fF,aW,pT⟩))
 all_goals (first | refine Br.ab ?_ | have Nf:=mk.next aH mJ eN aP fF aW pT)
 all_goals (refine Go ?_;first | refine Br.ab ?_ | refine Gs [(1,_),(5,_),(8,_),(9,_)] ?_)
 all_goals (first | refine Br.ab ?_ | refine WC.region ?_)
 all_goals (refine Go ?_;first | refine Br.ab ?_ | (exact ⟨(k+1,_,L++[_]),⟨rfl,rfl,rfl,rfl,trivial⟩,(by exact ⟨by simp;omega,Nf,by rw [List.map_append,hp,ur];simp [Rw.pl,HX],fun r hr b hb=>(List.mem_append.1 hr).elim (fun hr=>hf r hr b hb) (fun hr=>by simp at hr;subst hr;have:=eN b hb;have:=mk.ext.size;omega)⟩),(by simp;omega)⟩))
 try (refine Br.mk (i:=1000) ?_)
 refine Gn ?_;refine Gs [(5,_)] ?_;refine G2 ?_;refine Gt ?_
 exact ⟨L,mk.done (by omega) mk.own.cap,by rw [hp,show k=da n by omega],mk.ext,fun b hb=>hb.elim (fun e=>mk.fresh b e.2) (fun ⟨r,hr,e⟩=>hf r hr b e)⟩
theorem kU {h:ah} {A:Option Addr} {c b:Nat} {D:List UInt8} {e:TypeId} {z:Nat × Nat} (hr:Rd h (.slice A D.length c) 1 D.length (bu D)) (hD:D.length≤1000) (hb:h[b]?=some (.cells ⟨[.bool false,.slice A D.length c]⟩ e z)) :
   cF h (.slice (some ⟨b,0,none⟩) 1 1) [⟨false,.slice A D.length c,D⟩] :=
 ⟨bz hb rfl,⟨by simp [reachBytes],_,_,rfl,by simp [maxLen]⟩,fun x hx=>by
   simp only [List.mem_singleton] at hx
   subst hx
   exact ⟨hr,by show D.length≤reachBytes;unfold reachBytes;omega⟩⟩
theorem xt {h:ah} (n:Int):ag Tryz.prog 259 ⟨[In n]⟩ h fun u h'=>∃ L,j4 h' u L∧L.map Rw.pl=jN (da n)∧Ext No h h'∧∀ b,dN u L b→h.size≤b:=by
 refine calls [(0,_)] Tryz.func259 rfl Tryz.ntmps259 rfl ⟨rfl,trivial⟩ ?_
 refine G2 ?_;refine G2 ?_;refine WL.call (vs:=[_,_]) rfl Tryz.call292 rfl (xr n) rfl rfl rfl ?_
 rintro u1 h1 h2
 refine Go ?_;refine Gt ?_
 exact h2
theorem Ag {h:ah} (n:Int) (h0 : -9223372036854775808≤n) (h1:n≤9223372036854775807) :
   ag Tryz.prog 263 ⟨[In n]⟩ h fun u h'=>u=St ([83,69,76,69,67,84,32]++dw n)∧Ext No h h':=by
 have hdl:=dt n (by omega)
 refine calls [(0,_)] Tryz.func263 rfl Tryz.ntmps263 rfl ⟨rfl,trivial⟩ ?_
 refine G2 ?_;refine G2 ?_;refine WL.call (vs:=[_]) rfl Tryz.call246 rfl (gS n h0 h1) rfl rfl rfl ?_
 rintro _ h2 ⟨rfl,aH⟩
 refine WL.step (dW rfl rfl (by first | (simp only [List.length_append,List.length_cons,List.length_nil];omega) | (simp;omega))) rfl rfl rfl (Go ?_);refine Gs [(2,_)] ?_;refine Gt ?_
 exact ⟨rfl,aH⟩
def xu (n:List UInt8):List Value:=[St n,In 0,In 0,In 25,In (-1),In (-1),In 0]
def gT (n:Nat):List (List UInt8):=(List.range n).map fun i=>99 :: dw ((i+1:Nat):Int)
theorem uu (n:Nat):gT (n+1)=gT n++[99 :: dw ((n+1:Nat):Int)]:=by unfold gT;rw [List.range_succ];simp
theorem oV (n:Nat):(gT n).length=n:=by simp [gT]
theorem sa {h:ah} (i:Nat) (hi:i≤100000):ag Tryz.prog 298 ⟨[In i]⟩ h fun u h'=>u=.agg ⟨xu (99 :: dw i)⟩∧Ext No h h':=by
 have hdl:=dt i (by omega)
 refine calls [(0,_)] Tryz.func298 rfl Tryz.ntmps298 rfl ⟨rfl,trivial⟩ ?_
 refine WC.sr ?_;refine WL.ai (av (fun w=>Tryz.zeroValue212 w)) rfl rfl rfl ?_
 rintro _ h1 ⟨b1,rfl,bO,aQ,ay⟩
 refine Gn ?_;refine G2 ?_;refine WL.call (vs:=[_]) rfl Tryz.call246 rfl (gS i (by omega) (by omega)) rfl rfl rfl ?_
 rintro _ h2 ⟨rfl,aH⟩
 refine WL.step (dW rfl rfl (by first | (simp only [List.length_append,List.length_cons,List.length_nil];omega) | (simp;omega))) rfl rfl rfl ?_;refine WL.step (aD (vs:=[_,_,_,_]) (cs:=[_,_,_,_,_,_,_]) (fun | [a0,a3,a4,a5]=>[a0,(.int .i64 0),(.int .i64 0),a3,a4,a5,(.int .i64 0)] | _=>[]) rfl rfl (by kernel_rfl)) rfl rfl rfl ?_
 refine WL.az (al Tryz.sizeOf212 rfl rfl rfl (aH.obj aQ aO) rfl (by simp [Value.oneCell'])) rfl rfl ?_
 rintro _ h3 ⟨bn,aP⟩
 refine Gn ?_;refine Gs [(2,_)] ?_;refine WC.ret ?_
 repeat' (with_reducible first | refine ba ?_ | refine aV ?_)
 refine bY _ ⟨⟨_,rfl,bB Tryz.isAgg212 Tryz.sizeOf212 (by assumption) rfl⟩,trivial⟩ ?_
 exact ⟨rfl,(ay.trans aH).trans' aP (fun k hk e=>by omega)⟩
theorem xv {h:ah} (n:Int):ag Tryz.prog 297 ⟨[In n,.func (.func 298) #[] #[]]⟩ h fun u h'=>Own h' u 212 7 (da n) ((gT (da n)).flatMap xu)∧Ext No h h'∧∀ k,u.ownBlock=some k→h.size≤k:=by
 have hh:=jv n
 refine calls [(0,_),(1,_)] Tryz.func297 rfl Tryz.ntmps297 rfl ⟨rfl,rfl,trivial⟩ ?_
 refine G2 ?_;refine G2 ?_;refine G3 ?_;refine WL.call (vs:=[_]) rfl Tryz.call311 rfl (oU n) rfl rfl rfl ?_
 rintro _ hz ⟨rfl,_⟩
 subst hz
 refine Go ?_;refine WC.block ?_;refine WC.bC (X:=Nat × Value) (fun x=>([(5,x.2),(9,In (x.1:Int))]:Fr)) [(1,_),(8,_)] (fun x h'=>x.1≤da n∧Own h' x.2 212 7 x.1 ((gT x.1).flatMap xu)∧Ext No h h'∧∀ k,x.2.ownBlock=some k→h.size≤k) (fun x=>da n - x.1) ((0,.slice none 0 0)) ⟨rfl,rfl,rfl,rfl,trivial⟩ (by exact ⟨Nat.zero_le _,Own.nil _ _ _,.refl _ _,by simp [Value.ownBlock]⟩) ?_
 rintro ⟨k,v1⟩ h1 ⟨hk,ho,hx,hf⟩
 simp only at hk ho hf
 obtain ⟨A1,c1,rfl,_⟩:=ho.slice
 refine WC.sub [(5,_),(9,_),(1,_),(8,_)] ⟨rfl,rfl,rfl,rfl,trivial⟩ ?_
 dsimp only
 refine G2 ?_;refine WC.seq ?_
 refine aJ 1 2 (Hb.mk fun hb=>?_) (Hb.mk fun hb=>?_)
 all_goals try (
 refine ax 1 ?_
 refine WC.skip ?_
 skip)
 all_goals try (
 refine ax 2 ?_
 refine WC.exit ?_
 repeat' (with_reducible first | refine aU ?_ | refine aG rfl ?_ | refine aI ?_ | refine aL ?_ | refine aS ?_)
 refine Br.out (i:=1000) ?_
 skip)
 all_goals (refine Gn ?_;first | refine Br.ab ?_ | refine WC.seq ?_)
 all_goals (first | refine Br.ab ?_ | refine WC.block ?_)
 all_goals (first | refine Br.ab ?_ | refine WC.sr ?_)
 all_goals (refine Go ?_;first | refine Br.ab ?_ | refine WC.region ?_)
 all_goals (refine Go ?_)
 all_goals (
  first
    | (refine Br.ab ?_)
    | (have e1:((k:Int)+1)=((k+1:Nat):Int):=by omega
       rw [e1]))
 all_goals (
  first
    | (refine Br.ab ?_)
    | (refine WL.dT (vs:=[_]) rfl rfl Tryz.call298 rfl (sa (k+1) (by omega)) rfl rfl rfl ?_
       rintro _ h2 ⟨rfl,aH⟩))
 all_goals (first | refine Br.ab ?_ | unfold xu)
 all_goals (
  first
    | (refine Br.ab ?_)
    | (refine WL.ai (aw (vs:=[_]) (cs:=[_,_,_,_,_,_,_]) (fun | [.agg ⟨[a0,a1,a2,a3,a4,a5,a6]⟩]=>[a0,a1,a2,a3,a4,a5,a6] | _=>[]) Tryz.underlying137 rfl rfl (by kernel_rfl)) rfl rfl rfl ?_
       rintro _ h3 ⟨b3,rfl,gb,bn,aP⟩))
 all_goals (
  first
    | (refine Br.ab ?_)
    | (refine WL.ai (aT (sz:=7) (bytes:=64) rfl Tryz.underlying137 (show Tryz.prog.info? 212=some Tryz.t212 by kernel_rfl) rfl rfl rfl rfl (by decide) rfl rfl (ho.ext (aH.trans aP) (fun _ _=>aO)) (bz bn rfl) (by simp [Value.oneCell']) (by simp only [maxLen];omega) (by omega)) rfl rfl rfl ?_
       rintro v4 h4 ⟨fF,aW,pT⟩))
 all_goals (refine Go ?_;first | refine Br.ab ?_ | refine Gs [(1,_),(5,_),(8,_),(9,_)] ?_)
 all_goals (first | refine Br.ab ?_ | refine WC.region ?_)
 all_goals (refine Go ?_;first | refine Br.ab ?_ | (exact ⟨(k+1,_),⟨rfl,rfl,rfl,rfl,trivial⟩,(by exact ⟨by simp;omega,by rw [uu,List.flatMap_append,List.flatMap_singleton];exact fF,((hx.trans aH).trans aP).trans' aW (fun q hq e=>by have:=hf q e;omega),bR pT hf (by have:=hx.size;have:=aH.size;have:=aP.size;omega)⟩),(by simp;omega)⟩))
 try (refine Br.mk (i:=1000) ?_)
 refine Gn ?_;refine Gs [(5,_)] ?_;refine G2 ?_;refine Gt ?_
 exact ⟨by rw [show da n=k by omega];exact ho,hx,hf⟩
theorem xw {h:ah} (n:Int):ag Tryz.prog 266 ⟨[In n]⟩ h fun u h'=>Own h' u 212 7 (da n) ((gT (da n)).flatMap xu)∧Ext No h h'∧∀ k,u.ownBlock=some k→h.size≤k:=by
 refine calls [(0,_)] Tryz.func266 rfl Tryz.ntmps266 rfl ⟨rfl,trivial⟩ ?_
 refine G2 ?_;refine G2 ?_;refine WL.call (vs:=[_,_]) rfl Tryz.call297 rfl (xv n) rfl rfl rfl ?_
 rintro u1 h1 h2
 refine Go ?_;refine Gt ?_
 exact h2
abbrev eK:=Bool × List UInt8
abbrev F4:=List UInt8 × List Int
abbrev F5:=List UInt8 × List Int × List eK × List (List eK) × Bool × Bool
abbrev Ip:=Option (List UInt8 × List UInt8)
structure SP where
 st:Int
 sk:Bool
 ov:Bool
 cnt:Int
 L:List (List UInt8 × F4)
 P:List (List UInt8 × F5)
structure gF where
 kind:Int
 what:Int
 name:List UInt8
 portal:List UInt8
 text:List UInt8
 oids:List Int
 params:List eK
 max:Int
structure iw where
 kind:Int
 status:Int:=0
 tag:List UInt8:=[]
 name:List UInt8:=[]
 value:List UInt8:=[]
 n:Int:=0
 m:Int:=0
 oids:List Int:=[]
 cols:List b0:=[]
 row:List eK:=[]
 fields:List aY:=[]
def Fm.p (f:Fm):gF:=⟨f.kind,f.what,f.name,f.portal,f.text,f.oids,f.params.map aX.pl,f.max⟩
def Bk.p (b:Bk):iw:=⟨b.kind,b.status,b.tag,b.name,b.value,b.n,b.m,b.oids,b.cols,b.row.map aX.pl,b.fields⟩
def qh (L:List (List UInt8 × gR)):List (List UInt8 × F4):=L.map fun q=>(q.1,q.2.text,q.2.oids)
def fZ (P:List (List UInt8 × ez)):List (List UInt8 × F5):=P.map fun q=>(q.1,q.2.d.pl)
abbrev gj:=SP × List iw × Ip
def jO (s:SP) (n:List UInt8):Ip:=match bJ s.L n with
 | none=>some (([50,54,48,48,48]:List UInt8),nC n)
 | some t=>gE t.1 s.st
def gU (s:SP) (n:List UInt8):Ip:=match bJ s.P n with
 | none=>some (([51,52,48,48,48]:List UInt8),iG ([112,111,114,116,97,108]:List UInt8) n ([100,111,101,115,32,110,111,116,32,101,120,105,115,116]:List UInt8))
 | some p=>gE p.1 s.st
def eL (s:SP) (f:gF):gj :=
 let s1:SP:=if f.name=[] then { s with L:=cj s.L [] } else s
 match jY f.text s.st with
 | some e=>(s1,[],some e)
 | none=>if (bJ s1.L f.name).isSome=true then (s1,[],some (([52,50,80,48,53]:List UInt8),vM f.name)) else ({ s1 with L:=cx s1.L f.name (f.text,f.oids) },[{ kind:=49 }],none)
def fT (s:SP) (f:gF):gj:=match jO s f.name with
 | some e=>(s,[],some e)
 | none=>match bJ s.L f.name with
   | none=>(s,[],none)
   | some t=>if f.params.length ≠ t.2.length then (s,[],some (([48,56,80,48,49]:List UInt8),qg (f.params.length:Int) f.name (t.2.length:Int)))
     else if f.portal ≠ []∧(bJ s.P f.portal).isSome=true then (s,[],some (([52,50,80,48,51]:List UInt8),iG ([99,117,114,115,111,114]:List UInt8) f.portal ([97,108,114,101,97,100,121,32,101,120,105,115,116,115]:List UInt8)))
     else ({ s with P:=cx s.P f.portal (t.1,t.2,f.params,[],false,false) },[{ kind:=50 }],none)
def Ah (nm:List UInt8):b0:=⟨nm,0,0,25,-1,-1,0⟩
def oW (n:Int):iw:={ kind:=84,cols:=(gT (da n)).map Ah }
def jd (t:F4):iw:=if gx (bj t.1)=true then oW (oo (bj t.1) t.2.length) else { kind:=110 }
def cA (s:SP) (f:gF):gj:=if f.what=83 then (match jO s f.name with
   | some e=>(s,[],some e)
   | none=>match bJ s.L f.name with
     | none=>(s,[],none)
     | some t=>(s,[{ kind:=116,oids:=t.2 },jd t],none))
 else match gU s f.portal with
   | some e=>(s,[],some e)
   | none=>match bJ s.P f.portal with
     | none=>(s,[],none)
     | some p=>(s,[jd (p.1,p.2.1)],none)
def xx (n:Nat):List UInt8:=([83,69,76,69,67,84,32]:List UInt8)++dw (n:Int)
def cU (l:List (List eK)) (more:Bool):List iw:=l.map (fun r=>({ kind:=68,row:=r }:iw))++[if more=true then { kind:=115 } else { kind:=67,tag:=xx l.length }]
def cK (s:SP) (v:gi):gj:=if v.k=1 then (s,[{ kind:=73 }],none) else if v.k=8 then (s,[],some (v.c,([102,97,105,108,101,100,32,111,110,32,112,117,114,112,111,115,101]:List UInt8)))
 else ({ s with st:=(fq s.st v).1,P:=if cz v=true then [] else s.P },[{ kind:=67,tag:=(fq s.st v).2 }],none)
def dc (v:gi) (ps:List eK) (cnt:Int):List (List eK) × Int:=if v.k=5 then (jN (da v.n),cnt) else if v.k=6 then ([ps],cnt) else if v.k=7 then ([[(false,dw (cnt+1))]],cnt+1) else ([],cnt)
def dP (rs:List (List eK)) (ov:Bool) (most:Int):List (List eK) × List (List eK) × Bool :=
 if ov=true then ([],rs,true) else
   let n:=if 0 < most then min rs.length most.toNat else rs.length
   (rs.take n,rs.drop n,decide ((rs.drop n).length=0))
def ck (s:SP) (f:gF):gj:=match gU s f.portal with
 | some e=>(s,[],some e)
 | none=>match bJ s.P f.portal with
   | none=>(s,[],none)
   | some (t,o,ps,rs,ran,ov) =>
     if gx (bj t)=true then
       let rc:=if ran=true then (rs,s.cnt) else dc (bj t) ps s.cnt
       let q:=dP rc.1 ov f.max
       ({ s with cnt:=rc.2,P:=cx s.P f.portal (t,o,ps,q.2.1,true,q.2.2) },cU q.1 (!q.2.2),none)
     else if ran=true∧(bj t).k ≠ 1 then (s,[],some (([53,53,48,48,48]:List UInt8),([112,111,114,116,97,108,32,99,97,110,110,111,116,32,98,101,32,114,117,110]:List UInt8)))
     else match cK s (bj t) with
       | (s1,out,none)=>({ s1 with P:=if cz (bj t)=true∨ran=true then s1.P else cx s1.P f.portal (t,o,ps,[],true,ov) },out,none)
       | r=>r
def gV (s:SP) (f:gF):gj:=if f.what=83 then ({ s with L:=cj s.L f.name },[{ kind:=51 }],none) else ({ s with P:=cj s.P f.portal },[{ kind:=51 }],none)
def dz (s:SP) (f:gF):gj :=
 let s1:SP:={ s with L:=cj s.L [],P:=cj s.P [] }
 match jY f.text s.st with
 | some e=>(s1,[],some e)
 | none => if gx (bj f.text) = true then
     let rc:=dc (bj f.text) [] s.cnt
     ({ s1 with cnt:=rc.2 },oW (oo (bj f.text) 0) :: cU rc.1 false,none)
   else cK s1 (bj f.text)
def ep (s:SP):SP × iw:=({ s with P:=if s.st=73 then [] else s.P },{ kind:=90,status:=s.st })
def eC (s:SP) (f:gF):gj :=
 if f.kind=80 then eL s f else if f.kind=66 then fT s f else if f.kind=68 then cA s f else if f.kind=69 then ck s f
 else if f.kind=67 then gV s f else if f.kind=81 then dz s f else (s,[],none)
def oq (c t:List UInt8):iw:={ kind:=69,fields:=j5 ([69,82,82,79,82]:List UInt8) c t }
def ix (s:SP) (c t:List UInt8):SP × iw:=({ s with st:=fp s.st,P:=if fp s.st=69 then [] else s.P },oq c t)
def fU (f:gF) (r:gj):SP × List iw :=
 let a:SP × List iw:=match r.2.2 with
   | some (c,t)=>((ix { r.1 with sk:=decide (f.kind ≠ 81) } c t).1,r.2.1++[(ix r.1 c t).2])
   | none=>(r.1,r.2.1)
 if f.kind=81 then ((ep a.1).1,a.2++[(ep a.1).2]) else a
def iy (s:SP) (f:gF):SP × List iw :=
 if s.ov=true then (s,[])
 else if f.kind=88 then ({ s with ov:=true },[])
 else if f.kind=83 then ((ep { s with sk:=false }).1,[(ep s).2])
 else if s.sk=true then (s,[])
 else fU f (eC s f)
section
variable {κ α β:Type} [DecidableEq κ]
theorem nD (F:α→β) (E:List (κ × α)) (n:κ):bJ (E.map fun q=>(q.1,F q.2)) n=(bJ E n).map F:=by
 induction E with
 | nil=>rfl
 | cons a E ih=>rw [List.map_cons,fG,fG,ih];split <;> rfl
theorem sf (F:α→β) (E:List (κ × α)) (n:κ):cj (E.map fun q=>(q.1,F q.2)) n=(cj E n).map fun q=>(q.1,F q.2):=by
 unfold cj
 rw [List.filter_map]
 rfl
theorem si (F:α→β) (E:List (κ × α)) (n:κ) (v:α):cx (E.map fun q=>(q.1,F q.2)) n (F v)=(cx E n v).map fun q=>(q.1,F q.2):=by
 unfold cx
 rw [nD]
 rcases bJ E n with _ | w
 · simp
 · simp only [Option.map_some,Option.isSome_some,if_true,List.map_map]
   refine List.map_congr_left fun p _=>?_
   simp only [Function.comp]
   split <;> rfl
end
theorem kV (L:List (List UInt8 × gR)) (n:List UInt8):bJ (qh L) n=(bJ L n).map fun q=>(q.text,q.oids):=nD (fun q:gR=>(q.text,q.oids)) L n
theorem gy (P:List (List UInt8 × ez)) (n:List UInt8):bJ (fZ P) n=(bJ P n).map fun q=>q.d.pl:=nD (fun q:ez=>q.d.pl) P n
theorem kW (L:List (List UInt8 × gR)) (n:List UInt8):qh (cj L n)=cj (qh L) n:=(sf (fun q:gR=>(q.text,q.oids)) L n).symm
theorem mS (P:List (List UInt8 × ez)) (n:List UInt8):fZ (cj P n)=cj (fZ P) n:=(sf (fun q:ez=>q.d.pl) P n).symm
theorem kX (L:List (List UInt8 × gR)) (n:List UInt8) (v:gR):qh (cx L n v)=cx (qh L) n (v.text,v.oids):=(si (fun q:gR=>(q.text,q.oids)) L n v).symm
theorem qi (P:List (List UInt8 × ez)) (n:List UInt8) (v:ez):fZ (cx P n v)=cx (fZ P) n v.d.pl:=(si (fun q:ez=>q.d.pl) P n v).symm
def Bk.F (b:Bk) (q:Nat):Prop:=(0 < b.oids.length∧b.vo.ownBlock=some q)∨(0 < b.cols.length∧b.vc.ownBlock=some q)∨dy b.vr b.row q∨(0 < b.fields.length∧b.vf.ownBlock=some q)
theorem Bk.ok.ext {h h':ah} {S:Nat→Prop} {b:Bk} (k:b.ok h) (a:Ext S h h') (hS:∀ q,b.F q→¬ S q):b.ok h':=by
 refine ⟨⟨k.oids.1.ext' a fun q h1 h2=>hS q (.inl ⟨?_,h2⟩),k.oids.2⟩,⟨k.cols.1.ext' a fun q h1 h2=>hS q (.inr (.inl ⟨?_,h2⟩)),k.cols.2⟩,k.row.ext a fun q hq=>hS q (.inr (.inr (.inl hq))),⟨k.fields.1.ext' a fun q h1 h2=>hS q (.inr (.inr (.inr ⟨?_,h2⟩))),k.fields.2⟩⟩
 · exact h1
 · exact h1
 · exact h1
theorem Bk.ok.lt {h:ah} {b:Bk} {q:Nat} (k:b.ok h) (hq:b.F q):q < h.size:=by
 rcases hq with ⟨h1,h2⟩ | ⟨h1,h2⟩ | hq | ⟨h1,h2⟩
 · exact k.oids.1.lt h1 h2
 · exact k.cols.1.lt h1 h2
 · exact k.row.lt hq
 · exact k.fields.1.lt h1 h2
theorem Bk.ok.one {h:ah} {b:Bk} (k:b.ok h):∀ v∈b.cells,v.oneCell'=true:=by
 obtain ⟨_,_,e1,_⟩:=k.oids.1
 obtain ⟨_,_,e2,_⟩:=k.cols.1
 obtain ⟨_,⟨_,_,_,e3,_⟩,_⟩:=k.row
 obtain ⟨_,_,e4,_⟩:=k.fields.1
 simp [Bk.cells,Value.oneCell',e1,e2,e3,e4]
structure cB (h0 h:ah) (v:Value) (B:List Bk):Prop where
 own:Own h v 140 11 B.length (B.flatMap Bk.cells)
 ok:∀ b∈B,b.ok h
 vf:∀ q,v.ownBlock=some q→h0.size≤q
 bf:∀ b∈B,∀ q,b.F q→h0.size≤q
 dj:∀ b∈B,∀ q,b.F q→v.ownBlock ≠ some q
theorem cB.nil (h0 h:ah):cB h0 h (.slice none 0 0) []:=⟨Own.nil _ _ _,(fun _ h=>nomatch h),by simp [Value.ownBlock],(fun _ h=>nomatch h),(fun _ h=>nomatch h)⟩
theorem cB.ext {h0 h h':ah} {S:Nat→Prop} {v:Value} {B:List Bk} (k:cB h0 h v B) (x:Ext S h h') (hS:∀ q,S q→q < h0.size):cB h0 h' v B :=
 ⟨k.own.ext x fun q hq e=>by have:=k.vf q hq;have:=hS q e;omega,fun b hb=>(k.ok b hb).ext x fun q hq e=>by have:=k.bf b hb q hq;have:=hS q e;omega,k.vf,k.bf,k.dj⟩
theorem cB.aq {h0 h h':ah} {v:Value} {B:List Bk} (k:cB h0 h v B) (x:Ext No h h'):cB h0 h' v B:=k.ext x fun _ e=>e.elim
theorem cB.mono {h0 h1 h:ah} {v:Value} {B:List Bk} (k:cB h1 h v B) (e:h0.size≤h1.size):cB h0 h v B :=
 ⟨k.own,k.ok,fun q hq=>Nat.le_trans e (k.vf q hq),fun b hb q hq=>Nat.le_trans e (k.bf b hb q hq),k.dj⟩
theorem cB.snoc {h0 h h':ah} {v v':Value} {B:List Bk} {b:Bk} (k:cB h0 h v B) (ok:b.ok h) (fb:∀ z,b.F z→h0.size≤z) (hd:∀ z,b.F z→v.ownBlock ≠ some z) (hs:h0.size≤h.size)
   (ho:Own h' v' 140 11 (B.length+1) (B.flatMap Bk.cells++b.cells)) (hx:Ext (fun z=>v.ownBlock=some z) h h') (hl:v'.ownBlock=v.ownBlock∨v'.ownBlock=some h.size):cB h0 h' v' (B++[b]):=by
 have okB:∀ c∈B++[b],c.ok h∧(∀ z,c.F z→h0.size≤z)∧∀ z,c.F z→v.ownBlock ≠ some z:=fun c hc=>by
   rcases List.mem_append.1 hc with hc | hc
   · exact ⟨k.ok c hc,k.bf c hc,k.dj c hc⟩
   · obtain rfl:=List.mem_singleton.1 hc
     exact ⟨ok,fb,hd⟩
 refine ⟨by simpa using ho,fun c hc=>(okB c hc).1.ext hx fun z hz e=>(okB c hc).2.2 z hz e,fun q hq=>?_,fun c hc=>(okB c hc).2.1,fun c hc z hz e=>?_⟩
 · rcases hl with e | e
   · exact k.vf q (e▸hq)
   · rw [e] at hq
     simp only [Option.some.injEq] at hq
     omega
 · rcases hl with e2 | e2
   · exact (okB c hc).2.2 z hz (e2▸e)
   · rw [e2] at e
     simp only [Option.some.injEq] at e
     have:=(okB c hc).1.lt hz
     omega
def ll (k st:Int) (tag:List UInt8):Bk:=⟨k,st,tag,[],[],0,0,nS,[],nS,[],nS,[],nS,[]⟩
theorem iz (h:ah) (k st:Int) (tag:List UInt8):(ll k st tag).ok h:=⟨⟨Rd.nil _ _,by simp [ll]⟩,⟨Rd.nil _ _,by simp [ll]⟩,gN h _,⟨Rd.nil _ _,by simp [ll]⟩⟩
theorem je {k st:Int} {tag:List UInt8} {q:Nat}:¬ (ll k st tag).F q:=fun e=>by
 rcases e with ⟨e,_⟩ | ⟨e,_⟩ | e | ⟨e,_⟩
 · exact absurd e (Nat.lt_irrefl 0)
 · exact absurd e (Nat.lt_irrefl 0)
 · exact (fH rfl e).elim
 · exact absurd e (Nat.lt_irrefl 0)
theorem cB.one {h0 h:ah} {q:Nat} {b:Bk} (hq:h[q]?=some (.cells ⟨b.cells⟩ 140 (0,0))) (ok:b.ok h) (hg:h0.size≤q) (hF:∀ z,b.F z→h0.size≤z∧z ≠ q):cB h0 h (.slice (some ⟨q,0,none⟩) 1 1) [b] :=
 ⟨by simpa using dJ hq (len:=1) rfl (by simp [maxLen]),by simpa using ok,fun z hz=>by simp [Value.ownBlock] at hz;omega,by simpa using fun z hz=>(hF z hz).1,by simpa [Value.ownBlock] using fun z hz e=>(hF z hz).2 e.symm⟩
theorem cB.tag {h0 h:ah} {q:Nat} {k st:Int} {tag:List UInt8} (hq:h[q]?=some (.cells ⟨F1 k st tag⟩ 140 (0,0))) (hg:h0.size≤q):cB h0 h (.slice (some ⟨q,0,none⟩) 1 1) [ll k st tag] :=
 .one hq (iz _ _ _ _) hg fun _ e=>(je e).elim
theorem cB.append {h0 h h':ah} {v w v':Value} {B C:List Bk} (k:cB h0 h v B) (j:cB h0 h w C) (hd:∀ c∈C,∀ z,c.F z→v.ownBlock ≠ some z) (hs:h0.size≤h.size)
   (ho:Own h' v' 140 11 (B.length+C.length) (B.flatMap Bk.cells++C.flatMap Bk.cells)) (hx:Ext (fun z=>v.ownBlock=some z) h h') (hl:v'.ownBlock=v.ownBlock∨v'.ownBlock=some h.size):cB h0 h' v' (B++C):=by
 have okB:∀ c∈B++C,c.ok h∧(∀ z,c.F z→h0.size≤z)∧∀ z,c.F z→v.ownBlock ≠ some z:=fun c hc=>by
   rcases List.mem_append.1 hc with hc | hc
   · exact ⟨k.ok c hc,k.bf c hc,k.dj c hc⟩
   · exact ⟨j.ok c hc,j.bf c hc,hd c hc⟩
 refine ⟨by simpa using ho,fun c hc=>(okB c hc).1.ext hx fun z hz e=>(okB c hc).2.2 z hz e,fun q hq=>?_,fun c hc=>(okB c hc).2.1,fun c hc z hz e=>?_⟩
 · rcases hl with e | e
   · exact k.vf q (e▸hq)
   · rw [e] at hq
     simp only [Option.some.injEq] at hq
     omega
 · rcases hl with e2 | e2
   · exact (okB c hc).2.2 z hz (e2▸e)
   · rw [e2] at e
     simp only [Option.some.injEq] at e
     have:=(okB c hc).1.lt hz
     omega
theorem cB.ext' {h0 h h':ah} {S:Nat→Prop} {v:Value} {B:List Bk} (k:cB h0 h v B) (x:Ext S h h') (h1:∀ q,v.ownBlock=some q→¬ S q) (h2:∀ b∈B,∀ q,b.F q→¬ S q):cB h0 h' v B :=
 ⟨k.own.ext x h1,fun b hb=>(k.ok b hb).ext x (h2 b hb),k.vf,k.bf,k.dj⟩
theorem Bk.Ng {b:Bk} (h1:b.oids=[]) (h2:b.cols=[]) (h3:b.row=[]) (h4:b.fields=[]) (q:Nat):¬ b.F q:=fun e=>by
 rcases e with ⟨e,_⟩ | ⟨e,_⟩ | e | ⟨e,_⟩
 · rw [h1] at e;exact absurd e (Nat.lt_irrefl 0)
 · rw [h2] at e;exact absurd e (Nat.lt_irrefl 0)
 · exact (fH h3 e).elim
 · rw [h4] at e;exact absurd e (Nat.lt_irrefl 0)
def Fm.F (f:Fm) (q:Nat):Prop:=(0 < f.oids.length∧f.vo.ownBlock=some q)∨dy f.vp f.params q
structure gW (f:Fm):Prop where
 n:f.name.length≤100000
 p:f.portal.length≤100000
 t:f.text.length≤100000
 o:f.oids.length≤20000
 m:f.params.length≤100000
 x : -9223372036854775808≤f.max∧f.max≤9223372036854775807
def cw (st:Int) (sk ov:Bool) (cnt:Int) (L:List (List UInt8 × gR)) (P:List (List UInt8 × ez)):SP:=⟨st,sk,ov,cnt,qh L,fZ P⟩
def Sv (g:ah) (A:Ad) (P0:List (List UInt8 × ez)) (h:ah) (s:SP):Prop:=∃ L P,Ss h A s.st s.sk s.ov s.cnt L P∧qh L=s.L∧fZ P=s.P∧Tn A P0 g h P
structure jB (s:SP):Prop where
 l:∀ q∈s.L,q.2.1.length≤100000
 p:∀ q∈s.P,q.2.1.length≤100000∧q.2.2.1.length≤20000∧q.2.2.2.1.length≤100000∧q.2.2.2.2.1.length≤100000∧∀ r∈q.2.2.2.2.1,r.length≤100000
 c:s.cnt < 1000000
def ct (h:ah) (A:Ad) (P:List (List UInt8 × ez)) (r:gj) (u:Value) (h':ah):Prop:=∃ v B,(r.2.2 ≠ none→v=nS)∧u=.tuple ⟨[v,fY r.2.2]⟩∧cB h h' v B∧B.map Bk.p=r.2.1∧Sv h A P h' r.1
def fi (h:ah) (A:Ad) (L:List (List UInt8 × gR)) (P:List (List UInt8 × ez)) (r:gj) (u:Value) (h':ah):Prop:=∃ v B,(r.2.2 ≠ none→v=nS)∧u=.tuple ⟨[v,fY r.2.2]⟩∧cB h h' v B∧B.map Bk.p=r.2.1∧∃ L' P',(∀ q∈L',q∈L)∧(∀ q∈P',q∈P)∧Ss h' A r.1.st r.1.sk r.1.ov r.1.cnt L' P'∧qh L'=r.1.L∧fZ P'=r.1.P∧Tn A P h h' P'
theorem fi.LK {h h':ah} {A:Ad} {L:List (List UInt8 × gR)} {P:List (List UInt8 × ez)} {r:gj} {u:Value} (d:fi h A L P r u h'):ct h A P r u h':=by
 obtain ⟨v,B,c,e,O,p,L',P',_,_,k⟩:=d
 exact ⟨v,B,c,e,O,p,L',P',k⟩
section
variable {h h':ah} {A:Ad} {st:Int} {sk ov:Bool} {cnt:Int} {L:List (List UInt8 × gR)} {P:List (List UInt8 × ez)}
theorem jB.tl (lm:jB (cw st sk ov cnt L P)):∀ q∈L,q.2.text.length≤100000:=fun q hq=>lm.l _ (List.mem_map.2 ⟨q,hq,rfl⟩)
theorem jB.tp (lm:jB (cw st sk ov cnt L P)):∀ q∈P,q.2.d.text.length≤100000∧q.2.d.oids.length≤20000∧(q.2.d.ps.map aX.pl).length≤100000∧(q.2.d.rs.map Rw.pl).length≤100000∧∀ r∈q.2.d.rs.map Rw.pl,r.length≤100000:=fun q hq=>lm.p _ (List.mem_map.2 ⟨q,hq,rfl⟩)
theorem lP (k:Ss h A st sk ov cnt L P) (lm:jB (cw st sk ov cnt L P)) (n:List UInt8) (hn:n.length≤100000):ag Tryz.prog 208 ⟨[.pointer (some ⟨A.bs,0,none⟩),St n]⟩ h fun u h' =>
   (∃ q:gR,u=.tuple ⟨[sX q,fY (jO (cw st sk ov cnt L P) n)]⟩∧(∃ B c,q.vo=.slice B q.oids.length c)∧(jO (cw st sk ov cnt L P) n=none→bJ L n=some q))∧Ext No h h':=by
 have hlk:=cS sX L n
 have hsp:jO (cw st sk ov cnt L P) n=match (bJ L n).map fun q=>(q.text,q.oids) with
   | none=>some (([50,54,48,48,48]:List UInt8),nC n)
   | some t=>gE t.1 st:=by rw [← kV];rfl
 rcases hg:bJ L n with _ | ⟨text,vo,oids⟩
 · rw [hg] at hlk hsp
   dsimp only [Option.map_none] at hlk hsp
   rw [hsp]
   refine calls [(0,_),(1,_)] Tryz.func208 rfl Tryz.ntmps208 rfl ⟨rfl,rfl,trivial⟩ ?_
   refine WC.sr ?_;refine WL.ai (av (fun w=>Tryz.zeroValue261 w)) rfl rfl rfl ?_
   rintro _ h1 ⟨b4,rfl,bO,bx,ay⟩
   refine Go ?_;refine WC.sr ?_
   have k1:=k.aq ay
   have hb:=k1.se.bq
   have hms:=k1.se.stm
   have l4:=aj bx
   refine WL.step (ak rfl) rfl rfl rfl ?_;refine WL.step (ae rfl) rfl rfl rfl (Go ?_);refine WL.ld rfl (by first | exact aa hb rfl | assumption) rfl rfl rfl (Go ?_)
   refine WL.step ((du fJ Tryz.underlying149 Tryz.underlying9 (fun w=>Tryz.zeroValue261 w) rfl rfl hms hlk).1) rfl rfl rfl (Go ?_)
   refine WL.ai (av (fun w=>Tryz.zeroValue261 w)) rfl rfl rfl ?_
   rintro _ h2 ⟨b6,rfl,eS,bN,aH⟩
   refine WL.az (al Tryz.sizeOf261 rfl rfl rfl bN rfl (by simp [Value.oneCell'])) rfl rfl ?_
   rintro _ h3 ⟨F6,aP⟩
   have X3:Ext No h1 h3:=aH.trans' aP (fun q hq e=>by omega)
   have sj:=X3.obj bx aO
   refine Go ?_;refine Gs [(0,_),(1,_),(4,_),(6,_),(7,_)] ?_;refine G3 ?_
   refine aJ 1 2 ?_ TT.mk
   all_goals (refine ax 1 ?_)
   refine WC.sr ?_;refine WL.step (aD (vs:=[]) (cs:=[_,_]) (fun | []=>[(St []),(.slice none 0 0)] | _=>[]) rfl rfl (by kernel_rfl)) rfl rfl rfl (Go ?_)
   refine WL.call (vs:=[_]) rfl Tryz.call244 rfl (r9 n hn) rfl rfl rfl ?_
   rintro _ h4 ⟨rfl,aW⟩
   refine WL.call (vs:=[_,_]) rfl Tryz.call204 rfl (iu _ _) rfl rfl rfl ?_
   rintro _ hq ⟨rfl,hz⟩
   replace hz:=hz.symm
   subst hz
   refine WL.az (al Tryz.sizeOf261 rfl rfl rfl (aW.obj sj aO) rfl (by simp [Value.oneCell'])) rfl rfl ?_
   rintro _ h5 ⟨bT,aN⟩
   refine Go ?_;refine Gs [(4,_),(5,_)] ?_;refine WC.ret ?_
   repeat' (with_reducible first | refine ba ?_ | refine aV ?_)
   refine dY _ _ ⟨⟨_,rfl,bB Tryz.isAgg261 Tryz.sizeOf261 bT rfl⟩,rfl,trivial⟩ ?_
   exact ⟨⟨⟨[],.slice none 0 0,[]⟩,rfl,⟨_,_,rfl⟩,fun e=>by cases e⟩,((ay.trans X3).trans aW).trans' aN (fun q hq e=>by omega)⟩
 · have hm:=ca hg
   have htl:=lm.tl _ hm
   obtain ⟨B,c,hvo,_⟩:=(k.sok _ hm).1
   dsimp only at htl hvo
   subst hvo
   rw [hg] at hlk hsp
   dsimp only [Option.map_some,sX] at hlk hsp
   rw [hsp]
   unfold sX
   refine calls [(0,_),(1,_)] Tryz.func208 rfl Tryz.ntmps208 rfl ⟨rfl,rfl,trivial⟩ ?_
   refine WC.sr ?_;refine WL.ai (av (fun w=>Tryz.zeroValue261 w)) rfl rfl rfl ?_
   rintro _ h1 ⟨b4,rfl,bO,bx,ay⟩
   refine Go ?_;refine WC.sr ?_
   have k1:=k.aq ay
   have hb:=k1.se.bq
   have hms:=k1.se.stm
   have l4:=aj bx
   refine WL.step (ak rfl) rfl rfl rfl ?_;refine WL.step (ae rfl) rfl rfl rfl (Go ?_);refine WL.ld rfl (by first | exact aa hb rfl | assumption) rfl rfl rfl (Go ?_)
   refine WL.step ((gI fJ Tryz.underlying149 Tryz.underlying9 rfl rfl hms hlk).1) rfl rfl rfl (Go ?_);refine WL.ai (av (fun w=>Tryz.zeroValue261 w)) rfl rfl rfl ?_
   rintro _ h2 ⟨b6,rfl,eS,bN,aH⟩
   refine WL.az (al Tryz.sizeOf261 rfl rfl rfl bN rfl (by simp [Value.oneCell'])) rfl rfl ?_
   rintro _ h3 ⟨F6,aP⟩
   have X3:Ext No h1 h3:=aH.trans' aP (fun q hq e=>by omega)
   have k3:=k1.aq X3
   have sj:=X3.obj bx aO
   have Iq:¬ b6=b4:=by omega
   refine Go ?_;refine Gs [(0,_),(1,_),(4,_),(6,_),(7,_)] ?_;refine G3 ?_
   refine aJ 1 2 ?_ TT.mk
   all_goals (refine ax 2 ?_)
   refine WC.skip ?_;refine Gn ?_;refine Gs [(0,_),(4,_),(6,_)] ?_;refine WC.seq ?_;refine WC.bW (fun h'=>Ext (fun q=>q=b4) h3 h') 6 6 rfl dk ?_
   refine WH.tk 0 rfl (fun hq hC=>an Tryz.isAgg261 Tryz.sizeOf261 rfl rfl (by exact (At.au F6).ext hC Iq)) rfl rfl rfl ?_
   refine WH.tk 1 rfl (fun hq hC=>ak rfl) rfl rfl rfl ?_
   refine WH.tk 2 rfl (fun hq hC=>an Tryz.isAgg261 Tryz.sizeOf261 rfl rfl (by exact (At.au F6).ext hC Iq)) rfl rfl rfl ?_
   refine WH.one 3 (by kernel_rfl) ?_
   refine aE.call (vs:=[_,_]) rfl rfl Tryz.call245 rfl (oO k3 text (by omega) ⟨_,_,_,rfl⟩) rfl rfl rfl ?_ (fun _=>by kernel_rfl)
   rintro _ h4 ⟨rfl,aW⟩
   refine ⟨fun _=>aW.mono fun _ _ e=>e.elim,?_⟩
   have Hr:Ext (fun q=>q=b4) h3 h4:=aW.mono fun _ _ e=>e.elim
   refine WH.one 4 (by kernel_rfl) ?_
   refine aE.cQ rfl (al Tryz.sizeOf261 rfl rfl rfl (aW.obj sj aO) rfl (by simp [Value.oneCell'])) rfl rfl ?_ (fun _=>by kernel_rfl)
   rintro _ h5 ⟨bT,aN⟩
   refine ⟨fun _=>Hr.trans aN,?_⟩
   have Ex:=Hr.trans aN
   refine WH.tk 5 rfl (fun hq hC=>aR rfl) rfl rfl rfl ?_
   refine WH.done (by kernel_rfl) ?_
   refine Gn ?_;refine Gs [(4,_),(5,_)] ?_;refine WC.ret ?_
   repeat' (with_reducible first | refine ba ?_ | refine aV ?_)
   refine dY _ _ ⟨⟨_,rfl,bB Tryz.isAgg261 Tryz.sizeOf261 bT rfl⟩,rfl,trivial⟩ ?_
   exact ⟨⟨⟨text,_,oids⟩,rfl,⟨_,_,rfl⟩,fun _=>rfl⟩,(ay.trans X3).trans' Ex (fun q hq e=>by omega)⟩
theorem Ss.pe (k:Ss h A st sk ov cnt L P) {n:List UInt8} {i:ez} (hi:bJ P n=some i):Pe h A.bp A.mp (fh vJ P) i.p n i.d :=
 have hm:=ca hi
 ⟨k.se.pb,k.se.pm,by rw [cS,hi];rfl,(k.pok _ hm).1,(k.pok _ hm).2.1,fun q hq e=>(k.pok _ hm).2.2 q hq (e▸.inr (.inr (.inr (.inr ⟨_,hm,rfl⟩))))⟩
theorem eT (k:Ss h A st sk ov cnt L P) (lm:jB (cw st sk ov cnt L P)) (n:List UInt8) (hn:n.length≤100000):ag Tryz.prog 213 ⟨[.pointer (some ⟨A.bs,0,none⟩),St n]⟩ h fun u h' =>
   (∃ d:PD,u=.tuple ⟨[.agg ⟨d.cells⟩,fY (gU (cw st sk ov cnt L P) n)]⟩∧d.ok h'∧(∀ q,d.F q→h.size≤q)∧(gU (cw st sk ov cnt L P) n=none→∃ i,bJ P n=some i∧d.pl=i.d.pl))∧Ext No h h':=by
 have hlk:=cS vJ P n
 have hsp:gU (cw st sk ov cnt L P) n=match (bJ P n).map fun q=>q.d.pl with
   | none=>some (([51,52,48,48,48]:List UInt8),iG ([112,111,114,116,97,108]:List UInt8) n ([100,111,101,115,32,110,111,116,32,101,120,105,115,116]:List UInt8))
   | some t=>gE t.1 st:=by rw [← gy];rfl
 rcases hg:bJ P n with _ | i
 · rw [hg] at hlk hsp
   dsimp only [Option.map_none] at hlk hsp
   rw [hsp]
   have kg:=fun (g:ah) (k:Ss g A st sk ov cnt L P)=>FJ n k.se.pb k.se.pm hlk
   unfold FF PD.cells at kg
   refine calls [(0,_),(1,_)] Tryz.func213 rfl Tryz.ntmps213 rfl ⟨rfl,rfl,trivial⟩ ?_
   refine WC.sr ?_;refine WL.ai (av (fun w=>Tryz.zeroValue273 w)) rfl rfl rfl ?_
   rintro _ h1 ⟨b4,rfl,bO,bx,ay⟩
   refine Go ?_;refine WC.sr ?_
   have k1:=k.aq ay
   have hb:=k1.se.bq
   have l4:=aj bx
   refine WL.step (ak rfl) rfl rfl rfl ?_;refine WL.step (ae rfl) rfl rfl rfl (Go ?_);refine WL.ld rfl (by first | exact aa hb rfl | assumption) rfl rfl rfl (Go ?_)
   refine WL.call (vs:=[_,_]) rfl Tryz.call249 rfl (kg _ k1) rfl rfl rfl ?_
   rintro _ h2 ⟨rfl,aH⟩
   refine Go ?_;refine WL.ai (av (fun w=>Tryz.zeroValue273 w)) rfl rfl rfl ?_
   rintro _ h3 ⟨b6,rfl,gb,bN,aP⟩
   refine WL.az (al Tryz.sizeOf273 rfl rfl rfl bN rfl (by simp [Value.oneCell'])) rfl rfl ?_
   rintro _ h4 ⟨C6,aW⟩
   have iH:Ext No h1 h4:=aH.trans (aP.trans' aW (fun q hq e=>by omega))
   have lQ:=iH.obj bx aO
   refine Go ?_;refine Gs [(0,_),(1,_),(4,_),(6,_),(7,_)] ?_;refine G3 ?_
   refine aJ 1 2 ?_ TT.mk
   all_goals (refine ax 1 ?_)
   refine WC.sr ?_;refine WL.step (aD (vs:=[]) (cs:=[_,_,_,_,_,_]) (fun | []=>[(St []),(.slice none 0 0),(.slice none 0 0),(.slice none 0 0),(.bool false),(.bool false)] | _=>[]) rfl rfl (by kernel_rfl)) rfl rfl rfl (Go ?_)
   refine WL.call (vs:=[_]) rfl Tryz.call250 rfl (uo n hn) rfl rfl rfl ?_
   rintro _ h5 ⟨rfl,aN⟩
   refine WL.call (vs:=[_,_]) rfl Tryz.call204 rfl (iu _ _) rfl rfl rfl ?_
   rintro _ hq ⟨rfl,hz⟩
   replace hz:=hz.symm
   subst hz
   refine WL.az (al Tryz.sizeOf273 rfl rfl rfl (aN.obj lQ aO) rfl (by simp [Value.oneCell'])) rfl rfl ?_
   rintro _ h6 ⟨F7,aM⟩
   refine Go ?_;refine Gs [(4,_),(5,_)] ?_;refine WC.ret ?_
   repeat' (with_reducible first | refine ba ?_ | refine aV ?_)
   refine dY _ _ ⟨⟨_,rfl,bB Tryz.isAgg273 Tryz.sizeOf273 F7 rfl⟩,rfl,trivial⟩ ?_
   exact ⟨⟨FF,rfl,FG _,fun q hq=>by
    rcases hq with ⟨h0,_⟩ | hq | hq
    · exact absurd h0 (by decide)
    · exact (fH rfl hq).elim
    · exact (jc rfl hq).elim,fun e=>by cases e⟩,((ay.trans iH).trans aN).trans' aM (fun q hq e=>by omega)⟩
 · have hpe:=k.pe hg
   have htl:=(lm.tp _ (ca hg)).1
   dsimp only at htl
   rw [hg] at hsp
   dsimp only [Option.map_some] at hsp
   rw [hsp]
   have kg:=fun (g:ah) (k:Ss g A st sk ov cnt L P)=>Il (k.pe hg)
   refine calls [(0,_),(1,_)] Tryz.func213 rfl Tryz.ntmps213 rfl ⟨rfl,rfl,trivial⟩ ?_
   refine WC.sr ?_;refine WL.ai (av (fun w=>Tryz.zeroValue273 w)) rfl rfl rfl ?_
   rintro _ h1 ⟨b4,rfl,bO,bx,ay⟩
   refine Go ?_;refine WC.sr ?_
   have k1:=k.aq ay
   have hb:=k1.se.bq
   have l4:=aj bx
   refine WL.step (ak rfl) rfl rfl rfl ?_;refine WL.step (ae rfl) rfl rfl rfl (Go ?_);refine WL.ld rfl (by first | exact aa hb rfl | assumption) rfl rfl rfl (Go ?_)
   refine WL.call (vs:=[_,_]) rfl Tryz.call249 rfl (kg _ k1) rfl rfl rfl ?_
   rintro _ h2 ⟨⟨d2,rfl,iN,kP,eN⟩,aH⟩
   refine Go ?_;refine WL.ai (av (fun w=>Tryz.zeroValue273 w)) rfl rfl rfl ?_
   rintro _ h3 ⟨b6,rfl,gb,bN,aP⟩
   refine WL.az (al Tryz.sizeOf273 rfl rfl rfl bN rfl (fg iN)) rfl rfl ?_
   rintro _ h4 ⟨C6,aW⟩
   have iH:Ext No h1 h4:=aH.trans (aP.trans' aW (fun q hq e=>by omega))
   have k4:=k1.aq iH
   have ln:=iN.ext (aP.trans' (S:=No) aW (fun q hq e=>by omega)) (fun _ _=>aO)
   have lQ:=iH.obj bx aO
   have Iq:¬ b6=b4:=by have:=aH.size;omega
   have hti:d2.text=i.d.text:=congrArg (·.1) kP
   obtain ⟨text,vo,oids,vp,ps,vr,rs,ran,over⟩:=d2
   dsimp only at hti
   subst hti
   dsimp only [PD.cells] at C6
   obtain ⟨A3,c3,hvo,_⟩:=id ln.oids
   dsimp only at hvo
   subst hvo
   refine Go ?_;refine Gs [(0,_),(1,_),(4,_),(6,_),(7,_)] ?_;refine G3 ?_
   refine aJ 1 2 ?_ TT.mk
   all_goals (refine ax 2 ?_)
   refine WC.skip ?_;refine Gn ?_;refine Gs [(0,_),(4,_),(6,_)] ?_;refine WC.seq ?_;refine WC.bW (fun h'=>Ext (fun q=>q=b4) h4 h') 7 7 rfl dk ?_
   refine WH.tk 0 rfl (fun hq hC=>an Tryz.isAgg273 Tryz.sizeOf273 rfl rfl (by exact (At.au C6).ext hC Iq)) rfl rfl rfl ?_
   refine WH.tk 1 rfl (fun hq hC=>ak rfl) rfl rfl rfl ?_
   refine WH.tk 2 rfl (fun hq hC=>ad rfl Tryz.underlying273 rfl Tryz.sizeOf261) rfl rfl rfl ?_
   refine WH.tk 3 rfl (fun hq hC=>an Tryz.isAgg261 Tryz.sizeOf261 rfl rfl (by exact At.pre (xs:=[_,_]) (ys:=[_,_,_,_]) ((At.au C6).ext hC Iq))) rfl rfl rfl ?_
   refine WH.one 4 (by kernel_rfl) ?_
   refine aE.call (vs:=[_,_]) rfl rfl Tryz.call245 rfl (oO k4 i.d.text (by omega) ⟨_,_,_,rfl⟩) rfl rfl rfl ?_ (fun _=>by kernel_rfl)
   rintro _ h5 ⟨rfl,aN⟩
   refine ⟨fun _=>aN.mono fun _ _ e=>e.elim,?_⟩
   have Ex:Ext (fun q=>q=b4) h4 h5:=aN.mono fun _ _ e=>e.elim
   refine WH.one 5 (by kernel_rfl) ?_
   refine aE.cQ rfl (al Tryz.sizeOf273 rfl rfl rfl (aN.obj lQ aO) rfl (fg ln)) rfl rfl ?_ (fun _=>by kernel_rfl)
   rintro _ h6 ⟨F7,aM⟩
   refine ⟨fun _=>Ex.trans aM,?_⟩
   have CK:=Ex.trans aM
   refine WH.tk 6 rfl (fun hq hC=>aR rfl) rfl rfl rfl ?_
   refine WH.done (by kernel_rfl) ?_
   refine Gn ?_;refine Gs [(4,_),(5,_)] ?_;refine WC.ret ?_
   repeat' (with_reducible first | refine ba ?_ | refine aV ?_)
   refine dY _ _ ⟨⟨_,rfl,bB Tryz.isAgg273 Tryz.sizeOf273 F7 rfl⟩,rfl,trivial⟩ ?_
   exact ⟨⟨⟨i.d.text,_,oids,vp,ps,vr,rs,ran,over⟩,rfl,(ln.ext aN (fun _ _=>aO)).ext aM (fun q hq e=>by subst e;have:=eN _ hq;omega),fun q hq=>by have:=eN q hq;have:=ay.size;omega,fun _=>⟨i,rfl,kP⟩⟩,(ay.trans iH).trans' CK (fun q hq e=>by omega)⟩
end
section
variable {h h':ah} {A:Ad} {st:Int} {sk ov:Bool} {cnt:Int} {L:List (List UInt8 × gR)} {P:List (List UInt8 × ez)}
def nE (L:List (List UInt8 × gR)) (n:List UInt8):List (List UInt8 × gR):=if n=[] then cj L [] else L
theorem Ai (f:gF):eL (cw st sk ov cnt L P) f=match jY f.text st with
   | some e=>(cw st sk ov cnt (nE L f.name) P,[],some e)
   | none=>match bJ (nE L f.name) f.name with
     | some _=>(cw st sk ov cnt (nE L f.name) P,[],some (([52,50,80,48,53]:List UInt8),vM f.name))
     | none=>({ cw st sk ov cnt (nE L f.name) P with L:=cx (qh (nE L f.name)) f.name (f.text,f.oids) },[{ kind:=49 }],none):=by
 have e1:(if f.name=[] then { cw st sk ov cnt L P with L:=cj (cw st sk ov cnt L P).L [] } else cw st sk ov cnt L P)=cw st sk ov cnt (nE L f.name) P:=by
   unfold nE
   split
   · simp only [cw,kW]
   · rfl
 unfold eL
 dsimp only
 rw [e1]
 have hg:=kV (nE L f.name) f.name
 rcases hr:jY f.text st with _ | e
 · simp only [cw,hr,hg]
   cases bJ (nE L f.name) f.name <;> simp
 · simp only [cw,hr]
theorem ct.err {r:gj} {a c:List UInt8} {s:SP} (hr:r=(s,[],some (a,c))) (k:Sv h A P h' s):ct h A P r (.tuple ⟨[.slice none 0 0,fY (some (a,c))]⟩) h':=by
 subst hr
 exact ⟨_,[],fun _=>rfl,rfl,cB.nil _ _,rfl,k⟩
theorem Sv.of {P0:List (List UInt8 × ez)} {g:ah} (k:Ss h A st sk ov cnt L P) (t:Tn A P0 g h P):Sv g A P0 h (cw st sk ov cnt L P):=⟨L,P,k,rfl,rfl,t⟩
theorem C7 (k:Ss h A st sk ov cnt L P) (f:Fm) (hf:f.ok h) (hF:∀ q,f.F q→¬ Mu A P q) (fl:gW f):ag Tryz.prog 146 ⟨[.pointer (some ⟨A.bs,0,none⟩),.agg ⟨f.cells⟩]⟩ h (ct h A P (eL (cw st sk ov cnt L P) f.p)):=by
 have hpe:=Ai (st:=st) (sk:=sk) (ov:=ov) (cnt:=cnt) (L:=L) (P:=P) f.p
 obtain ⟨⟨e1,_⟩,⟨e2,_⟩,⟨e3,_⟩,e4,_⟩:=hf
 obtain ⟨oX,nX,xy,j5,_⟩:=fl
 obtain ⟨fk,w,n,p,t,vo,o,vf,fs,vs,rs,vp,ps,mx⟩:=f
 dsimp only [Fm.p] at e1 e2 e3 e4 hpe oX nX xy j5
 have er:=e1
 obtain ⟨A1,c1,rfl,_⟩:=e1
 obtain ⟨_,_,rfl,_⟩:=e2
 obtain ⟨_,_,rfl,_⟩:=e3
 obtain ⟨_,_,rfl,_⟩:=e4
 dsimp only [Fm.cells,Fm.p]
 obtain ⟨L1,F8⟩:∃ L1,nE L n=L1:=⟨_,rfl⟩
 rw [F8] at hpe
 obtain ⟨r,hr⟩:∃ r,jY t st=r:=⟨_,rfl⟩
 obtain ⟨g,hg⟩:∃ g,bJ L1 n=g:=⟨_,rfl⟩
 have hlk:=cS sX L1 n
 rw [hg] at hlk
 rw [hr,hg] at hpe
 rcases (show (n=[]∧L1=cj L []∧g=none)∨(n ≠ []∧L1=L) by
   unfold nE at F8
   by_cases hn:n=[]
   · rw [if_pos hn] at F8
     exact .inl ⟨hn,F8.symm,by rw [← hg,← F8,hn,zU,if_pos rfl]⟩
   · rw [if_neg hn] at F8
     exact .inr ⟨hn,F8.symm⟩) with ⟨hn,hL,JR⟩ | ⟨hn,hL⟩
 · subst JR
   rcases r with _ | ⟨ra,rb⟩
   all_goals
     dsimp only [Option.map_none] at hlk hpe
     refine calls [(0,_),(1,_)] Tryz.func146 rfl Tryz.ntmps146 rfl ⟨rfl,rfl,trivial⟩ ?_
     all_goals (refine WC.sr ?_;refine WL.ai (aB rfl) rfl rfl rfl ?_;rintro _ h1 ⟨b3,rfl,bO,aQ,ay⟩;have k1:=k.aq ay;have Km:=k1.se.bq;have Ko:=k1.se.stm;refine Go ?_;refine G3 ?_;refine WL.ld rfl (by first | exact aa aQ rfl | assumption) rfl rfl rfl (Go ?_);refine Gs [(0,_),(3,_),(11,_)] ?_;refine aJ 1 2 ?_ TT.mk;refine ax 1 ?_;refine WC.region (Go ?_);refine WL.step (ae rfl) rfl rfl rfl (Go ?_);refine WL.ld rfl (by first | exact aa Km rfl | assumption) rfl rfl rfl ?_;refine WL.az (fD rfl fJ Tryz.underlying149 Tryz.underlying9 rfl rfl Ko) rfl rfl ?_;rintro _ h2 ⟨oY,aH⟩)
     all_goals (
      rw [eJ,← hL] at oY
      obtain ⟨k2,t2⟩:=k1.nA aH oY (fun q hq=>.inl (cC (hL▸hq)).1)
      have bH:=t2.1.obj aQ (k1.not aQ (by decide) (by decide) (by decide))
      have T2:=(Tn.no (A:=A) (P:=P) ay).trans t2)
     all_goals (refine Gn ?_;refine Gn ?_;refine G3 ?_;refine WL.ld rfl (by first | exact aa bH rfl | assumption) rfl rfl rfl ?_)
     all_goals (
      refine WL.call (vs:=[_,_]) rfl Tryz.call203 rfl (ju k2 t (by omega)) rfl rfl rfl ?_
      rintro _ h3 ⟨rfl,aP⟩
      rw [hr]
      dsimp only [fY]
      have k3:=k2.aq aP
      have bn:=aP.obj bH aO
      have C8:=k3.se.bq
      have Aj:=k3.se.stm
      have T3:=T2.trans (Tn.no (A:=A) (P:=P) aP))
     all_goals (refine Go ?_;refine Gs [(0,_),(3,_),(6,_)] ?_;refine G2 ?_;first | (refine WL.step (fR (by kernel_rfl) rfl rfl) rfl rfl rfl ?_) | (refine WL.step (cR (by kernel_rfl) rfl rfl) rfl rfl rfl ?_))
     all_goals (refine Gn ?_;refine aJ 3 4 ?_ TT.mk)
     all_goals try (
     refine ax 3 ?_
     all_goals (refine G2 ?_;refine Gs [(4,_),(5,_)] ?_;refine Gt ?_)
     all_goals (
      first
       | exact ct.err hpe (.of k3 T3)
       | exact ct.err hpe (.of (k5.aq aM) (T5.trans (Tn.no (A:=A) (P:=P) aM)))
       | (rw [hpe];exact ⟨_,[ll 49 0 []],(fun e=>absurd rfl e),rfl,.tag Hs (by have:=T7.1.size;omega),rfl,_,_,k7.aq bD,kX _ _ _,rfl,T7.trans (Tn.no (A:=A) (P:=P) bD)⟩))
     skip)
     all_goals (refine ax 4 ?_;refine WC.skip ?_;refine Gn ?_;refine WC.seq ?_;refine WC.seq ?_;refine WC.bW (fun h'=>Ext No h3 h') 13 13 rfl dk ?_;refine WH.tk 0 rfl (fun hq hC=>ak rfl) rfl rfl rfl ?_;refine WH.tk 1 rfl (fun hq hC=>ae rfl) rfl rfl rfl ?_;refine WH.tk 2 rfl (fun hq hC=>ad rfl Tryz.underlying153 rfl Tryz.sizeOf149) rfl rfl rfl ?_;refine WH.tk 3 rfl (fun hq hC=>aA Tryz.isAgg149 rfl (by first | exact hC.cell (by first | exact aa C8 rfl | assumption) aO)) rfl rfl rfl ?_;refine WH.tk 4 rfl (fun hq hC=>ad rfl Tryz.underlying42 rfl Tryz.sizeOf9) rfl rfl rfl ?_;refine WH.tk 5 rfl (fun hq hC=>aA Tryz.isAgg9 rfl (by first | exact hC.cell (by first | exact aa bn rfl | assumption) aO)) rfl rfl rfl ?_;refine WH.tk 6 rfl (fun hq hC=>(du fJ Tryz.underlying149 Tryz.underlying9 (fun w=>Tryz.zeroValue261 w) rfl rfl (Aj.ext hC aO) hlk).1) rfl rfl rfl ?_;refine WH.tk 7 rfl (fun hq hC=>ak rfl) rfl rfl rfl ?_;refine WH.tk 8 rfl (fun hq hC=>bU rfl rfl) rfl rfl rfl ?_;refine WH.tk 9 rfl (fun hq hC=>bU rfl rfl) rfl rfl rfl ?_;refine WH.one 10 (by kernel_rfl) ?_;refine aE.run rfl (av (fun w=>Tryz.zeroValue261 w)) rfl rfl rfl ?_ (fun _=>by kernel_rfl);rintro _ h4 ⟨b7,rfl,oF,bx,aW⟩;refine ⟨fun _=>aW,?_⟩;refine WH.one 11 (by kernel_rfl) ?_;refine aE.cQ rfl (al Tryz.sizeOf261 rfl rfl rfl bx rfl (by first | (simp [Value.oneCell'];done) | (simp [Value.oneCell'];exact hone _ hg))) rfl rfl ?_ (fun _=>by kernel_rfl);rintro _ h5 ⟨bT,aN⟩;refine ⟨fun _=>aW.trans' aN (fun q hq e=>by omega),?_⟩;have X5:Ext No h3 h5:=aW.trans' aN (fun q hq e=>by omega);have k5:=k3.aq X5;have F9:=k5.se.bq;have Ga:=k5.se.stm;have iL:=X5.obj bn aO;have T5:=T3.trans (Tn.no (A:=A) (P:=P) X5);refine WH.tk 12 rfl (fun hq hC=>aR rfl) rfl rfl rfl ?_;refine WH.done (by kernel_rfl) ?_;refine Gn ?_;refine Gs [(0,_),(3,_),(8,_)] ?_;refine G2 ?_;refine aJ 5 6 ?_ TT.mk;refine ax 6 ?_;refine WC.skip ?_;refine Gn ?_;refine WC.seq ?_;refine WC.bW (fun h'=>Ext No h5 h') 12 13 rfl dk ?_;refine WH.tk 0 rfl (fun hq hC=>ak rfl) rfl rfl rfl ?_;refine WH.tk 1 rfl (fun hq hC=>ae rfl) rfl rfl rfl ?_;refine WH.tk 2 rfl (fun hq hC=>ad rfl Tryz.underlying153 rfl Tryz.sizeOf149) rfl rfl rfl ?_;refine WH.tk 3 rfl (fun hq hC=>aA Tryz.isAgg149 rfl (by first | exact hC.cell (by first | exact aa F9 rfl | assumption) aO)) rfl rfl rfl ?_;refine WH.tk 4 rfl (fun hq hC=>ad rfl Tryz.underlying42 rfl Tryz.sizeOf9) rfl rfl rfl ?_;refine WH.tk 5 rfl (fun hq hC=>aA Tryz.isAgg9 rfl (by first | exact hC.cell (by first | exact aa iL rfl | assumption) aO)) rfl rfl rfl ?_)
     all_goals (refine WH.tk 6 rfl (fun hq hC=>ad rfl Tryz.underlying42 rfl Tryz.sizeOf9) rfl rfl rfl ?_;refine WH.tk 7 rfl (fun hq hC=>aA Tryz.isAgg9 rfl (by first | exact hC.cell (by first | exact aa iL rfl | assumption) aO)) rfl rfl rfl ?_;refine WH.tk 8 rfl (fun hq hC=>ad rfl Tryz.underlying42 rfl Tryz.sizeOf39) rfl rfl rfl ?_;refine WH.tk 9 rfl (fun hq hC=>aA Tryz.isAgg39 rfl (by first | exact hC.cell (by first | exact aa iL rfl | assumption) aO)) rfl rfl rfl ?_;refine WH.one 10 (by kernel_rfl) ?_;refine aE.call (vs:=[_]) rfl rfl Tryz.call206 rfl (ig o (er.ext' T5.1 (fun q h1 h2=>hF q (.inl ⟨h1,h2⟩))) (by unfold reachBytes;omega)) rfl rfl rfl ?_ (fun _=>by kernel_rfl);rintro v6 h6 ⟨fN,aM,im⟩;obtain ⟨A6,c6,rfl,_⟩:=fN.slice;refine ⟨fun _=>aM,?_⟩;refine WH.tk 11 rfl (fun hq hC=>aD (vs:=[_,_]) (cs:=[_,_]) (fun | [a0,a1]=>[a0,a1] | _=>[]) rfl rfl (by kernel_rfl)) rfl rfl rfl ?_;refine WH.one 12 (by kernel_rfl) ?_;refine aE.cQ rfl (hX fJ Tryz.underlying149 Tryz.underlying9 rfl rfl rfl (Ga.ext aM aO)) rfl rfl ?_ (fun _=>by kernel_rfl);rintro _ h7 ⟨Ir,bh⟩;refine ⟨fun e=>(by cases e),?_⟩)
     all_goals (
      rw [show (Value.agg ⟨[St t,.slice A6 o.length c6]⟩)=sX ⟨t,.slice A6 o.length c6,o⟩ from rfl,lJ] at Ir
      have k6:=k5.aq aM
      obtain ⟨k7,t7⟩:=k6.nA bh Ir (fun q hq=>(cy hq).elim (fun e=>.inr (by subst e;exact ⟨fN.rd,j5,fun z _ hz=>⟨k6.zV fN (by decide) (by decide) (by decide) z hz,fun e=>by have:=k5.zz.s z e;have:=im z hz;omega⟩⟩)) (fun e=>.inl e.1))
      have T7:=(T5.trans (Tn.no (A:=A) (P:=P) aM)).trans t7)
     all_goals (refine WH.done (by kernel_rfl) ?_;refine Gn ?_;refine Gs [] ?_;refine WC.sr ?_;refine WL.call (vs:=[_]) rfl Tryz.call207 rfl (iq 49) rfl rfl rfl ?_;rintro _ h8 ⟨q,rfl,Hs,hgq,bD⟩;refine Go ?_;refine Gt ?_)
     all_goals (
      first
       | exact ct.err hpe (.of k3 T3)
       | exact ct.err hpe (.of (k5.aq aM) (T5.trans (Tn.no (A:=A) (P:=P) aM)))
       | (rw [hpe];exact ⟨_,[ll 49 0 []],(fun e=>absurd rfl e),rfl,.tag Hs (by have:=T7.1.size;omega),rfl,_,_,k7.aq bD,kX _ _ _,rfl,T7.trans (Tn.no (A:=A) (P:=P) bD)⟩))
 · rcases r with _ | ⟨ra,rb⟩
   · rcases g with _ | gq
     all_goals
       have hone:∀ q,bJ L1 n=some q→q.vo.oneCell'=true:=fun q hq=>by
         obtain ⟨_,_,e,_⟩:=(k.sok _ (ca (hL▸hq))).1
         rw [e];rfl
       dsimp only [Option.map_none,Option.map_some,sX] at hlk hpe
       refine calls [(0,_),(1,_)] Tryz.func146 rfl Tryz.ntmps146 rfl ⟨rfl,rfl,trivial⟩ ?_
       all_goals (refine WC.sr ?_;refine WL.ai (aB rfl) rfl rfl rfl ?_;rintro _ h1 ⟨b3,rfl,bO,bH,ay⟩;have k2:Ss h1 A st sk ov cnt L1 P:=hL▸k.aq ay;have T2:=Tn.no (A:=A) (P:=P) ay;refine Go ?_;refine G3 ?_;refine WL.ld rfl (by first | exact aa bH rfl | assumption) rfl rfl rfl (Go ?_);refine Gs [(0,_),(3,_),(11,_)] ?_;refine aJ 1 2 ?_ TT.mk;refine ax 2 ?_;refine WC.skip ?_;refine Gn ?_;refine G3 ?_;refine WL.ld rfl (by first | exact aa bH rfl | assumption) rfl rfl rfl ?_)
       all_goals (
        refine WL.call (vs:=[_,_]) rfl Tryz.call203 rfl (ju k2 t (by omega)) rfl rfl rfl ?_
        rintro _ h3 ⟨rfl,aP⟩
        rw [hr]
        dsimp only [fY]
        have k3:=k2.aq aP
        have bn:=aP.obj bH aO
        have C8:=k3.se.bq
        have Aj:=k3.se.stm
        have T3:=T2.trans (Tn.no (A:=A) (P:=P) aP))
       all_goals (refine Go ?_;refine Gs [(0,_),(3,_),(6,_)] ?_;refine G2 ?_;refine WL.step (cR (by kernel_rfl) rfl rfl) rfl rfl rfl ?_;refine Gn ?_;refine aJ 3 4 ?_ TT.mk;refine ax 4 ?_;refine WC.skip ?_;refine Gn ?_;refine WC.seq ?_;refine WC.seq ?_;refine WC.bW (fun h'=>Ext No h3 h') 13 13 rfl dk ?_;refine WH.tk 0 rfl (fun hq hC=>ak rfl) rfl rfl rfl ?_;refine WH.tk 1 rfl (fun hq hC=>ae rfl) rfl rfl rfl ?_;refine WH.tk 2 rfl (fun hq hC=>ad rfl Tryz.underlying153 rfl Tryz.sizeOf149) rfl rfl rfl ?_;refine WH.tk 3 rfl (fun hq hC=>aA Tryz.isAgg149 rfl (by first | exact hC.cell (by first | exact aa C8 rfl | assumption) aO)) rfl rfl rfl ?_;refine WH.tk 4 rfl (fun hq hC=>ad rfl Tryz.underlying42 rfl Tryz.sizeOf9) rfl rfl rfl ?_;refine WH.tk 5 rfl (fun hq hC=>aA Tryz.isAgg9 rfl (by first | exact hC.cell (by first | exact aa bn rfl | assumption) aO)) rfl rfl rfl ?_;first | (refine WH.tk 6 rfl (fun hq hC=>(gI fJ Tryz.underlying149 Tryz.underlying9 rfl rfl (Aj.ext hC aO) hlk).1) rfl rfl rfl ?_) | (refine WH.tk 6 rfl (fun hq hC=>(du fJ Tryz.underlying149 Tryz.underlying9 (fun w=>Tryz.zeroValue261 w) rfl rfl (Aj.ext hC aO) hlk).1) rfl rfl rfl ?_))
       all_goals (refine WH.tk 7 rfl (fun hq hC=>ak rfl) rfl rfl rfl ?_;refine WH.tk 8 rfl (fun hq hC=>bU rfl rfl) rfl rfl rfl ?_;refine WH.tk 9 rfl (fun hq hC=>bU rfl rfl) rfl rfl rfl ?_;refine WH.one 10 (by kernel_rfl) ?_;refine aE.run rfl (av (fun w=>Tryz.zeroValue261 w)) rfl rfl rfl ?_ (fun _=>by kernel_rfl);rintro _ h4 ⟨b7,rfl,oF,bx,aW⟩;refine ⟨fun _=>aW,?_⟩;refine WH.one 11 (by kernel_rfl) ?_;refine aE.cQ rfl (al Tryz.sizeOf261 rfl rfl rfl bx rfl (by first | (simp [Value.oneCell'];done) | (simp [Value.oneCell'];exact hone _ hg))) rfl rfl ?_ (fun _=>by kernel_rfl);rintro _ h5 ⟨bT,aN⟩;refine ⟨fun _=>aW.trans' aN (fun q hq e=>by omega),?_⟩;have X5:Ext No h3 h5:=aW.trans' aN (fun q hq e=>by omega);have k5:=k3.aq X5;have F9:=k5.se.bq;have Ga:=k5.se.stm;have iL:=X5.obj bn aO;have T5:=T3.trans (Tn.no (A:=A) (P:=P) X5);refine WH.tk 12 rfl (fun hq hC=>aR rfl) rfl rfl rfl ?_;refine WH.done (by kernel_rfl) ?_;refine Gn ?_;refine Gs [(0,_),(3,_),(8,_)] ?_;refine G2 ?_;refine aJ 5 6 ?_ TT.mk)
       all_goals try (
       refine ax 5 ?_
       all_goals (refine G2 ?_;refine WL.ld rfl (by first | exact aa iL rfl | assumption) rfl rfl rfl ?_;refine WL.call (vs:=[_]) rfl Tryz.call205 rfl (um n (by omega)) rfl rfl rfl ?_;rintro _ h6 ⟨rfl,aM⟩;refine WL.call (vs:=[_,_]) rfl Tryz.call204 rfl (iu _ _) rfl rfl rfl ?_;rintro _ hq ⟨rfl,hz⟩;replace hz:=hz.symm;subst hz;refine Go ?_;refine Gs [(4,_),(5,_)] ?_;refine Gt ?_)
       all_goals (
        first
         | exact ct.err hpe (.of k3 T3)
         | exact ct.err hpe (.of (k5.aq aM) (T5.trans (Tn.no (A:=A) (P:=P) aM)))
         | (rw [hpe];exact ⟨_,[ll 49 0 []],(fun e=>absurd rfl e),rfl,.tag Hs (by have:=T7.1.size;omega),rfl,_,_,k7.aq bD,kX _ _ _,rfl,T7.trans (Tn.no (A:=A) (P:=P) bD)⟩))
       skip)
       all_goals (refine ax 6 ?_;refine WC.skip ?_;refine Gn ?_;refine WC.seq ?_;refine WC.bW (fun h'=>Ext No h5 h') 12 13 rfl dk ?_;refine WH.tk 0 rfl (fun hq hC=>ak rfl) rfl rfl rfl ?_;refine WH.tk 1 rfl (fun hq hC=>ae rfl) rfl rfl rfl ?_;refine WH.tk 2 rfl (fun hq hC=>ad rfl Tryz.underlying153 rfl Tryz.sizeOf149) rfl rfl rfl ?_;refine WH.tk 3 rfl (fun hq hC=>aA Tryz.isAgg149 rfl (by first | exact hC.cell (by first | exact aa F9 rfl | assumption) aO)) rfl rfl rfl ?_;refine WH.tk 4 rfl (fun hq hC=>ad rfl Tryz.underlying42 rfl Tryz.sizeOf9) rfl rfl rfl ?_;refine WH.tk 5 rfl (fun hq hC=>aA Tryz.isAgg9 rfl (by first | exact hC.cell (by first | exact aa iL rfl | assumption) aO)) rfl rfl rfl ?_;refine WH.tk 6 rfl (fun hq hC=>ad rfl Tryz.underlying42 rfl Tryz.sizeOf9) rfl rfl rfl ?_;refine WH.tk 7 rfl (fun hq hC=>aA Tryz.isAgg9 rfl (by first | exact hC.cell (by first | exact aa iL rfl | assumption) aO)) rfl rfl rfl ?_;refine WH.tk 8 rfl (fun hq hC=>ad rfl Tryz.underlying42 rfl Tryz.sizeOf39) rfl rfl rfl ?_;refine WH.tk 9 rfl (fun hq hC=>aA Tryz.isAgg39 rfl (by first | exact hC.cell (by first | exact aa iL rfl | assumption) aO)) rfl rfl rfl ?_;refine WH.one 10 (by kernel_rfl) ?_;refine aE.call (vs:=[_]) rfl rfl Tryz.call206 rfl (ig o (er.ext' T5.1 (fun q h1 h2=>hF q (.inl ⟨h1,h2⟩))) (by unfold reachBytes;omega)) rfl rfl rfl ?_ (fun _=>by kernel_rfl);rintro v6 h6 ⟨fN,aM,im⟩;obtain ⟨A6,c6,rfl,_⟩:=fN.slice;refine ⟨fun _=>aM,?_⟩;refine WH.tk 11 rfl (fun hq hC=>aD (vs:=[_,_]) (cs:=[_,_]) (fun | [a0,a1]=>[a0,a1] | _=>[]) rfl rfl (by kernel_rfl)) rfl rfl rfl ?_;refine WH.one 12 (by kernel_rfl) ?_;refine aE.cQ rfl (hX fJ Tryz.underlying149 Tryz.underlying9 rfl rfl rfl (Ga.ext aM aO)) rfl rfl ?_ (fun _=>by kernel_rfl);rintro _ h7 ⟨Ir,bh⟩;refine ⟨fun e=>(by cases e),?_⟩)
       all_goals (
        rw [show (Value.agg ⟨[St t,.slice A6 o.length c6]⟩)=sX ⟨t,.slice A6 o.length c6,o⟩ from rfl,lJ] at Ir
        have k6:=k5.aq aM
        obtain ⟨k7,t7⟩:=k6.nA bh Ir (fun q hq=>(cy hq).elim (fun e=>.inr (by subst e;exact ⟨fN.rd,j5,fun z _ hz=>⟨k6.zV fN (by decide) (by decide) (by decide) z hz,fun e=>by have:=k5.zz.s z e;have:=im z hz;omega⟩⟩)) (fun e=>.inl e.1))
        have T7:=(T5.trans (Tn.no (A:=A) (P:=P) aM)).trans t7)
       all_goals (refine WH.done (by kernel_rfl) ?_;refine Gn ?_;refine Gs [] ?_;refine WC.sr ?_;refine WL.call (vs:=[_]) rfl Tryz.call207 rfl (iq 49) rfl rfl rfl ?_;rintro _ h8 ⟨q,rfl,Hs,hgq,bD⟩;refine Go ?_;refine Gt ?_)
       all_goals (
        first
         | exact ct.err hpe (.of k3 T3)
         | exact ct.err hpe (.of (k5.aq aM) (T5.trans (Tn.no (A:=A) (P:=P) aM)))
         | (rw [hpe];exact ⟨_,[ll 49 0 []],(fun e=>absurd rfl e),rfl,.tag Hs (by have:=T7.1.size;omega),rfl,_,_,k7.aq bD,kX _ _ _,rfl,T7.trans (Tn.no (A:=A) (P:=P) bD)⟩))
   · dsimp only at hpe
     refine calls [(0,_),(1,_)] Tryz.func146 rfl Tryz.ntmps146 rfl ⟨rfl,rfl,trivial⟩ ?_
     refine WC.sr ?_;refine WL.ai (aB rfl) rfl rfl rfl ?_
     rintro _ h1 ⟨b3,rfl,bO,bH,ay⟩
     have k2:Ss h1 A st sk ov cnt L1 P:=hL▸k.aq ay
     have T2:=Tn.no (A:=A) (P:=P) ay
     refine Go ?_;refine G3 ?_;refine WL.ld rfl (by first | exact aa bH rfl | assumption) rfl rfl rfl (Go ?_)
     refine Gs [(0,_),(3,_),(11,_)] ?_
     refine aJ 1 2 ?_ TT.mk
     all_goals (refine ax 2 ?_)
     refine WC.skip ?_;refine Gn ?_;refine G3 ?_;refine WL.ld rfl (by first | exact aa bH rfl | assumption) rfl rfl rfl ?_
     refine WL.call (vs:=[_,_]) rfl Tryz.call203 rfl (ju k2 t (by omega)) rfl rfl rfl ?_
     rintro _ h3 ⟨rfl,aP⟩
     rw [hr]
     dsimp only [fY]
     have k3:=k2.aq aP
     have bn:=aP.obj bH aO
     have C8:=k3.se.bq
     have Aj:=k3.se.stm
     have T3:=T2.trans (Tn.no (A:=A) (P:=P) aP)
     refine Go ?_;refine Gs [(0,_),(3,_),(6,_)] ?_;refine G2 ?_;refine WL.step (fR (by kernel_rfl) rfl rfl) rfl rfl rfl ?_
     refine Gn ?_
     refine aJ 3 4 ?_ TT.mk
     all_goals (refine ax 3 ?_)
     refine G2 ?_;refine Gs [(4,_),(5,_)] ?_;refine Gt ?_
     first
      | exact ct.err hpe (.of k3 T3)
      | exact ct.err hpe (.of (k5.aq aM) (T5.trans (Tn.no (A:=A) (P:=P) aM)))
      | (rw [hpe];exact ⟨_,[ll 49 0 []],(fun e=>absurd rfl e),rfl,.tag Hs (by have:=T7.1.size;omega),rfl,_,_,k7.aq bD,kX _ _ _,rfl,T7.trans (Tn.no (A:=A) (P:=P) bD)⟩)
end
section
variable {h h':ah} {A:Ad} {st:Int} {sk ov:Bool} {cnt:Int} {L:List (List UInt8 × gR)} {P:List (List UInt8 × ez)}
theorem nF {n:List UInt8} (e:jO (cw st sk ov cnt L P) n=none):∃ q,bJ L n=some q:=by
 have e':(match bJ (qh L) n with | none=>some (([50,54,48,48,48]:List UInt8),nC n) | some t=>gE t.1 st)=none:=e
 rw [kV] at e'
 rcases hg:bJ L n with _ | q
 · rw [hg] at e'
   cases e'
 · exact ⟨q,rfl⟩
theorem nG {n:List UInt8} (e:gU (cw st sk ov cnt L P) n=none):∃ q,bJ P n=some q:=by
 have e':(match bJ (fZ P) n with | none=>some (([51,52,48,48,48]:List UInt8),iG ([112,111,114,116,97,108]:List UInt8) n ([100,111,101,115,32,110,111,116,32,101,120,105,115,116]:List UInt8)) | some t=>gE t.1 st)=none:=e
 rw [gy] at e'
 rcases hg:bJ P n with _ | q
 · rw [hg] at e'
   cases e'
 · exact ⟨q,rfl⟩
theorem Gb (k:Ss h A st sk ov cnt L P) (lm:jB (cw st sk ov cnt L P)) (f:Fm) (hf:f.ok h) (hF:∀ q,f.F q→¬ Mu A P q) (fl:gW f):ag Tryz.prog 147 ⟨[.pointer (some ⟨A.bs,0,none⟩),.agg ⟨f.cells⟩]⟩ h (ct h A P (fT (cw st sk ov cnt L P) f.p)):=by
 have hok:=hf.4
 obtain ⟨⟨e1,_⟩,⟨e2,_⟩,⟨e3,_⟩,e4,_⟩:=hf
 obtain ⟨oX,nX,xy,j5,Ak,_⟩:=fl
 obtain ⟨fk,w,n,p,t,vo,o,vf,fs,vs,rs,vp,ps,mx⟩:=f
 dsimp only at e1 e2 e3 e4 oX nX xy j5 Ak hok
 obtain ⟨A1,c1,rfl,_⟩:=e1
 obtain ⟨_,_,rfl,_⟩:=e2
 obtain ⟨_,_,rfl,_⟩:=e3
 obtain ⟨A4,c4,rfl,_⟩:=e4
 rcases he:jO (cw st sk ov cnt L P) n with _ | ⟨ea,ec⟩
 · obtain ⟨q,hq⟩:=nF he
   have hqL:=k.sok _ (ca hq)
   have hpe:fT (cw st sk ov cnt L P) ⟨fk,w,n,p,t,o,ps.map aX.pl,mx⟩=if (ps.map aX.pl).length ≠ q.oids.length then (cw st sk ov cnt L P,[],some (([48,56,80,48,49]:List UInt8),qg ((ps.map aX.pl).length:Int) n (q.oids.length:Int)))
     else if p ≠ []∧(bJ (fZ P) p).isSome=true then (cw st sk ov cnt L P,[],some (([52,50,80,48,51]:List UInt8),iG ([99,117,114,115,111,114]:List UInt8) p ([97,108,114,101,97,100,121,32,101,120,105,115,116,115]:List UInt8)))
     else ({ cw st sk ov cnt L P with P:=cx (fZ P) p (q.text,q.oids,ps.map aX.pl,[],false,false) },[{ kind:=50 }],none):=by
     have hgl:bJ (cw st sk ov cnt L P).L n=some (q.text,q.oids):=by show bJ (qh L) n=_;rw [kV,hq];rfl
     unfold fT
     dsimp only
     rw [he,hgl]
     rfl
   rw [List.length_map,gy] at hpe
   by_cases hlen:ps.length=q.oids.length
   · rw [if_neg (fun e=>e hlen)] at hpe
     by_cases htw:p ≠ []∧(bJ P p).isSome=true
     · rw [if_pos (by simpa using htw)] at hpe
       obtain ⟨i,hi⟩:=Option.isSome_iff_exists.1 htw.2
       have kp:=fun (g:ah) (k:Ss g A st sk ov cnt L P) (d:PD)=>FI p d k.se.pb k.se.pm (v:=vJ i) (by rw [cS,hi];rfl) htw.1
       unfold PD.cells at kp
       dsimp only [Fm.cells,Fm.p]
       rw [hpe]
       refine calls [(0,_),(1,_)] Tryz.func147 rfl Tryz.ntmps147 rfl ⟨rfl,rfl,trivial⟩ ?_
       refine WC.sr ?_;refine WL.ai (aB rfl) rfl rfl rfl ?_
       rintro _ h1 ⟨b3,rfl,bO,aQ,ay⟩
       refine Go ?_;refine G2 ?_;refine WL.ld rfl (by first | exact aa aQ rfl | assumption) rfl rfl rfl ?_
       refine WL.call (vs:=[_,_]) rfl Tryz.call208 rfl (lP (k.aq ay) lm n oX) rfl rfl rfl ?_
       rintro _ h2 ⟨⟨q',rfl,⟨B,c,hvo⟩,hq'⟩,aH⟩
       rw [he] at hq' ⊢
       dsimp only [fY]
       obtain ⟨qt,qv,qo⟩:=q'
       dsimp only at hvo
       subst hvo
       unfold sX
       refine Go ?_;refine WL.ai (av (fun w=>Tryz.zeroValue261 w)) rfl rfl rfl ?_
       rintro _ h3 ⟨b6,rfl,gb,bn,aP⟩
       refine WL.az (al Tryz.sizeOf261 rfl rfl rfl bn rfl (by simp [Value.oneCell'])) rfl rfl ?_
       rintro _ h4 ⟨bx,aW⟩
       have iH:Ext No h1 h4:=aH.trans (aP.trans' aW (fun q hq e=>by omega))
       have X4:=ay.trans iH
       have bP:=iH.obj aQ aO
       have k4:=k.aq X4
       have hbs:=k4.se.bq
       have hqq:=Option.some.inj (hq.symm.trans (hq' rfl))
       subst hqq
       dsimp only at hlen
       refine Go ?_;refine Gs [(0,_),(3,_),(6,_),(7,_)] ?_;refine G3 ?_;refine WL.step (cR (by kernel_rfl) rfl rfl) rfl rfl rfl ?_
       refine Gn ?_
       refine aJ 1 2 ?_ TT.mk
       all_goals (refine ax 2 ?_)
       refine WC.skip ?_;refine Gn ?_;refine WC.seq ?_;refine WC.seq ?_;refine WC.fo dk (by kernel_rfl) ?_
       refine WQ.aK (ad rfl Tryz.underlying42 rfl Tryz.sizeOf40) rfl rfl rfl ?_;refine WQ.aK (aA Tryz.isAgg40 rfl (by first | exact aa bP rfl | assumption)) rfl rfl rfl ?_
       refine WQ.aK (cu rfl Tryz.underlying40 rfl) rfl rfl rfl ?_;refine WQ.aK (ad rfl Tryz.underlying261 rfl Tryz.sizeOf39) rfl rfl rfl ?_;refine WQ.aK (aA Tryz.isAgg39 rfl (by first | exact aa bx rfl | assumption)) rfl rfl rfl ?_
       refine WQ.aK (cu rfl Tryz.underlying39 rfl) rfl rfl rfl ?_;refine WQ.aK (aR rfl) rfl rfl rfl ?_;refine WQ.aK (aR rfl) rfl rfl rfl ?_;refine WQ.nil ?_;refine Gn ?_;refine Gs [(0,_),(3,_),(6,_),(8,_),(9,_)] ?_;refine G2 ?_
       refine aJ 3 4 ?_ TT.mk
       all_goals (refine ax 4 ?_)
       refine WC.skip ?_;refine Gn ?_;refine Gs [(0,_),(3,_),(6,_)] ?_;refine WC.seq ?_;refine WC.seq ?_;refine WC.kD 10 dk (by kernel_rfl) ?_
       show WS _ _ _ [_,_,_,_,_,_,_,_,_,_] _ _ _
       refine WS.step (ak rfl) rfl rfl rfl ?_;refine WS.step (ae rfl) rfl rfl rfl ?_;refine WS.step (ad rfl Tryz.underlying153 rfl Tryz.sizeOf150) rfl rfl rfl ?_;refine WS.step (aA Tryz.isAgg150 rfl (by first | exact aa hbs rfl | assumption)) rfl rfl rfl ?_
       refine WS.step (ad rfl Tryz.underlying42 rfl Tryz.sizeOf9) rfl rfl rfl ?_;refine WS.step (aA Tryz.isAgg9 rfl (by first | exact aa bP rfl | assumption)) rfl rfl rfl ?_
       refine WS.step (an Tryz.isAgg261 Tryz.sizeOf261 rfl rfl (by exact At.au bx)) rfl rfl rfl ?_
       refine WS.step (ad rfl Tryz.underlying42 rfl Tryz.sizeOf40) rfl rfl rfl ?_;refine WS.step (aA Tryz.isAgg40 rfl (by first | exact aa bP rfl | assumption)) rfl rfl rfl ?_
       refine WS.step (aD (vs:=[_,_]) (cs:=[_,_,_,_,_,_]) (fun | [.agg ⟨[a0,a1]⟩,a2]=>[a0,a1,a2,(.slice none 0 0),(.bool false),(.bool false)] | _=>[]) rfl rfl (by kernel_rfl)) rfl rfl rfl ?_
       refine WS.nil ?_
       show WL _ _ _ [_,_] _ _ _
       refine WL.call (vs:=[_,_,_]) rfl Tryz.call210 rfl (kp _ k4 ⟨qt,.slice B qo.length c,qo,.slice A4 ps.length c4,ps,.slice none 0 0,[],false,false⟩) rfl rfl rfl ?_
       rintro _ h5 ⟨rfl,aN⟩
       refine WL.step (bK.ka (by omega) (jQ rfl rfl)) rfl rfl rfl ?_
       refine WL.nil ?_;refine Gn ?_;refine Gs [(3,_),(46,_)] ?_
       refine aJ 5 6 ?_ TT.mk
       all_goals (refine ax 5 ?_)
       refine G2 ?_;refine WL.ld rfl (by first | exact aa (aN.obj bP aO) rfl | assumption) rfl rfl rfl ?_
       refine WL.call (vs:=[_]) rfl Tryz.call211 rfl (uq p nX) rfl rfl rfl ?_
       rintro _ h6 ⟨rfl,aM⟩
       refine WL.call (vs:=[_,_]) rfl Tryz.call204 rfl (iu _ _) rfl rfl rfl ?_
       rintro _ hq ⟨rfl,hz⟩
       replace hz:=hz.symm
       subst hz
       refine Go ?_;refine Gs [(4,_),(5,_)] ?_;refine Gt ?_
       exact ct.err rfl (.of ((k4.aq aN).aq aM) (Tn.no ((X4.trans aN).trans aM)))
     · rw [if_neg (by simpa using htw)] at hpe
       have FO:p=[]∨cY (fh vJ P) p=none:=by
         by_cases JB:p=[]
         · exact .inl JB
         · refine .inr ?_
           rw [cS]
           rcases hg:bJ P p with _ | i
           · rfl
           · exact absurd ⟨JB,by rw [hg];rfl⟩ htw
       have kp:=fun (g:ah) (k:Ss g A st sk ov cnt L P) (d:PD) (ok:d.ok g)=>HZ p d k.se.pb k.se.pm ok FO
       unfold PD.cells at kp
       dsimp only [Fm.cells,Fm.p]
       rw [hpe]
       refine calls [(0,_),(1,_)] Tryz.func147 rfl Tryz.ntmps147 rfl ⟨rfl,rfl,trivial⟩ ?_
       refine WC.sr ?_;refine WL.ai (aB rfl) rfl rfl rfl ?_
       rintro _ h1 ⟨b3,rfl,bO,aQ,ay⟩
       refine Go ?_;refine G2 ?_;refine WL.ld rfl (by first | exact aa aQ rfl | assumption) rfl rfl rfl ?_
       refine WL.call (vs:=[_,_]) rfl Tryz.call208 rfl (lP (k.aq ay) lm n oX) rfl rfl rfl ?_
       rintro _ h2 ⟨⟨q',rfl,⟨B,c,hvo⟩,hq'⟩,aH⟩
       rw [he] at hq' ⊢
       dsimp only [fY]
       obtain ⟨qt,qv,qo⟩:=q'
       dsimp only at hvo
       subst hvo
       unfold sX
       refine Go ?_;refine WL.ai (av (fun w=>Tryz.zeroValue261 w)) rfl rfl rfl ?_
       rintro _ h3 ⟨b6,rfl,gb,bn,aP⟩
       refine WL.az (al Tryz.sizeOf261 rfl rfl rfl bn rfl (by simp [Value.oneCell'])) rfl rfl ?_
       rintro _ h4 ⟨bx,aW⟩
       have iH:Ext No h1 h4:=aH.trans (aP.trans' aW (fun q hq e=>by omega))
       have X4:=ay.trans iH
       have bP:=iH.obj aQ aO
       have k4:=k.aq X4
       have hbs:=k4.se.bq
       have hqq:=Option.some.inj (hq.symm.trans (hq' rfl))
       subst hqq
       dsimp only at hlen hqL
       have okp:PD.ok h4 ⟨qt,.slice B qo.length c,qo,.slice A4 ps.length c4,ps,.slice none 0 0,[],false,false⟩:=⟨hqL.1.aq X4,by show qo.length * 8≤reachBytes;unfold reachBytes;have:=hqL.2.1;omega,hok.aq X4,Rd.nil _ _,⟨by simp,_,_,rfl,by simp [maxLen]⟩,by simp⟩
       refine Go ?_;refine Gs [(0,_),(3,_),(6,_),(7,_)] ?_;refine G3 ?_;refine WL.step (cR (by kernel_rfl) rfl rfl) rfl rfl rfl ?_
       refine Gn ?_
       refine aJ 1 2 ?_ TT.mk
       all_goals (refine ax 2 ?_)
       refine WC.skip ?_;refine Gn ?_;refine WC.seq ?_;refine WC.seq ?_;refine WC.fo dk (by kernel_rfl) ?_
       refine WQ.aK (ad rfl Tryz.underlying42 rfl Tryz.sizeOf40) rfl rfl rfl ?_;refine WQ.aK (aA Tryz.isAgg40 rfl (by first | exact aa bP rfl | assumption)) rfl rfl rfl ?_
       refine WQ.aK (cu rfl Tryz.underlying40 rfl) rfl rfl rfl ?_;refine WQ.aK (ad rfl Tryz.underlying261 rfl Tryz.sizeOf39) rfl rfl rfl ?_;refine WQ.aK (aA Tryz.isAgg39 rfl (by first | exact aa bx rfl | assumption)) rfl rfl rfl ?_
       refine WQ.aK (cu rfl Tryz.underlying39 rfl) rfl rfl rfl ?_;refine WQ.aK (aR rfl) rfl rfl rfl ?_;refine WQ.aK (aR rfl) rfl rfl rfl ?_;refine WQ.nil ?_;refine Gn ?_;refine Gs [(0,_),(3,_),(6,_),(8,_),(9,_)] ?_;refine G2 ?_
       refine aJ 3 4 ?_ TT.mk
       all_goals (refine ax 4 ?_)
       refine WC.skip ?_;refine Gn ?_;refine Gs [(0,_),(3,_),(6,_)] ?_;refine WC.seq ?_;refine WC.seq ?_;refine WC.kD 10 dk (by kernel_rfl) ?_
       show WS _ _ _ [_,_,_,_,_,_,_,_,_,_] _ _ _
       refine WS.step (ak rfl) rfl rfl rfl ?_;refine WS.step (ae rfl) rfl rfl rfl ?_;refine WS.step (ad rfl Tryz.underlying153 rfl Tryz.sizeOf150) rfl rfl rfl ?_;refine WS.step (aA Tryz.isAgg150 rfl (by first | exact aa hbs rfl | assumption)) rfl rfl rfl ?_
       refine WS.step (ad rfl Tryz.underlying42 rfl Tryz.sizeOf9) rfl rfl rfl ?_;refine WS.step (aA Tryz.isAgg9 rfl (by first | exact aa bP rfl | assumption)) rfl rfl rfl ?_
       refine WS.step (an Tryz.isAgg261 Tryz.sizeOf261 rfl rfl (by exact At.au bx)) rfl rfl rfl ?_
       refine WS.step (ad rfl Tryz.underlying42 rfl Tryz.sizeOf40) rfl rfl rfl ?_;refine WS.step (aA Tryz.isAgg40 rfl (by first | exact aa bP rfl | assumption)) rfl rfl rfl ?_
       refine WS.step (aD (vs:=[_,_]) (cs:=[_,_,_,_,_,_]) (fun | [.agg ⟨[a0,a1]⟩,a2]=>[a0,a1,a2,(.slice none 0 0),(.bool false),(.bool false)] | _=>[]) rfl rfl (by kernel_rfl)) rfl rfl rfl ?_
       refine WS.nil ?_
       show WL _ _ _ [_,_] _ _ _
       refine WL.call (vs:=[_,_,_]) rfl Tryz.call210 rfl (kp _ k4 _ okp) rfl rfl rfl ?_
       rintro _ h5 ⟨rfl,p5,d5,LM,bT,Nh,Ni,pQ,gZ,aN⟩
       rw [show (Value.pointer (some ⟨p5,0,none⟩))=vJ ⟨p5,d5⟩ from rfl,lJ] at LM
       obtain ⟨k5,t5⟩:=k4.lM aN LM bT Nh pQ gZ
       have T5:=(Tn.no (A:=A) (P:=P) X4).trans t5
       refine WL.step (bK.hG (by omega) (jQ rfl rfl)) rfl rfl rfl ?_
       refine WL.nil ?_;refine Gn ?_;refine Gs [(3,_),(46,_)] ?_
       refine aJ 5 6 ?_ TT.mk
       all_goals (refine ax 6 ?_)
       refine WC.skip ?_;refine Gn ?_;refine WC.sr ?_;refine WL.call (vs:=[_]) rfl Tryz.call207 rfl (iq 50) rfl rfl rfl ?_
       rintro _ h6 ⟨q6,rfl,C9,hgq,aM⟩
       refine Go ?_;refine Gt ?_
       exact ⟨_,[ll 50 0 []],(fun e=>absurd rfl e),rfl,.tag C9 (by have:=T5.1.size;omega),rfl,_,_,k5.aq aM,rfl,(qi _ _ _).trans (by rw [show (ez.mk p5 d5).d.pl=d5.pl from rfl,Ni];rfl),T5.trans (Tn.no (A:=A) aM)⟩
   · rw [if_pos hlen] at hpe
     dsimp only [Fm.cells,Fm.p]
     rw [hpe]
     refine calls [(0,_),(1,_)] Tryz.func147 rfl Tryz.ntmps147 rfl ⟨rfl,rfl,trivial⟩ ?_
     refine WC.sr ?_;refine WL.ai (aB rfl) rfl rfl rfl ?_
     rintro _ h1 ⟨b3,rfl,bO,aQ,ay⟩
     refine Go ?_;refine G2 ?_;refine WL.ld rfl (by first | exact aa aQ rfl | assumption) rfl rfl rfl ?_
     refine WL.call (vs:=[_,_]) rfl Tryz.call208 rfl (lP (k.aq ay) lm n oX) rfl rfl rfl ?_
     rintro _ h2 ⟨⟨q',rfl,⟨B,c,hvo⟩,hq'⟩,aH⟩
     rw [he] at hq' ⊢
     dsimp only [fY]
     obtain ⟨qt,qv,qo⟩:=q'
     dsimp only at hvo
     subst hvo
     unfold sX
     refine Go ?_;refine WL.ai (av (fun w=>Tryz.zeroValue261 w)) rfl rfl rfl ?_
     rintro _ h3 ⟨b6,rfl,gb,bn,aP⟩
     refine WL.az (al Tryz.sizeOf261 rfl rfl rfl bn rfl (by simp [Value.oneCell'])) rfl rfl ?_
     rintro _ h4 ⟨bx,aW⟩
     have iH:Ext No h1 h4:=aH.trans (aP.trans' aW (fun q hq e=>by omega))
     have X4:=ay.trans iH
     have bP:=iH.obj aQ aO
     have k4:=k.aq X4
     have hbs:=k4.se.bq
     have hqq:=Option.some.inj (hq.symm.trans (hq' rfl))
     subst hqq
     dsimp only at hlen hqL
     have hql:=hqL.2.1
     refine Go ?_;refine Gs [(0,_),(3,_),(6,_),(7,_)] ?_;refine G3 ?_;refine WL.step (cR (by kernel_rfl) rfl rfl) rfl rfl rfl ?_
     refine Gn ?_
     refine aJ 1 2 ?_ TT.mk
     all_goals (refine ax 2 ?_)
     refine WC.skip ?_;refine Gn ?_;refine WC.seq ?_;refine WC.seq ?_;refine WC.fo dk (by kernel_rfl) ?_
     refine WQ.aK (ad rfl Tryz.underlying42 rfl Tryz.sizeOf40) rfl rfl rfl ?_;refine WQ.aK (aA Tryz.isAgg40 rfl (by first | exact aa bP rfl | assumption)) rfl rfl rfl ?_
     refine WQ.aK (cu rfl Tryz.underlying40 rfl) rfl rfl rfl ?_;refine WQ.aK (ad rfl Tryz.underlying261 rfl Tryz.sizeOf39) rfl rfl rfl ?_;refine WQ.aK (aA Tryz.isAgg39 rfl (by first | exact aa bx rfl | assumption)) rfl rfl rfl ?_
     refine WQ.aK (cu rfl Tryz.underlying39 rfl) rfl rfl rfl ?_;refine WQ.aK (aR rfl) rfl rfl rfl ?_;refine WQ.aK (aR rfl) rfl rfl rfl ?_;refine WQ.nil ?_;refine Gn ?_;refine Gs [(0,_),(3,_),(6,_),(8,_),(9,_)] ?_;refine G2 ?_
     refine aJ 3 4 ?_ TT.mk
     all_goals (refine ax 3 ?_)
     refine G2 ?_;refine WL.ld rfl (by first | exact aa bP rfl | assumption) rfl rfl rfl (Go ?_)
     refine WL.call (vs:=[_,_,_]) rfl Tryz.call209 rfl (xq (ps.length:Int) n (qo.length:Int) oX (by omega) (by omega)) rfl rfl rfl ?_
     rintro _ h6 ⟨rfl,aM⟩
     refine WL.call (vs:=[_,_]) rfl Tryz.call204 rfl (iu _ _) rfl rfl rfl ?_
     rintro _ hq ⟨rfl,hz⟩
     replace hz:=hz.symm
     subst hz
     refine Go ?_;refine Gs [(4,_),(5,_)] ?_;refine Gt ?_
     exact ct.err rfl (.of (k4.aq aM) (Tn.no (X4.trans aM)))
 · have hpe : fT (cw st sk ov cnt L P) ⟨fk, w, n, p, t, o, ps.map aX.pl, mx⟩ = (cw st sk ov cnt L P, [], some (ea, ec)) := by
     unfold fT
     dsimp only
     rw [he]
   dsimp only [Fm.cells,Fm.p]
   rw [hpe]
   refine calls [(0,_),(1,_)] Tryz.func147 rfl Tryz.ntmps147 rfl ⟨rfl,rfl,trivial⟩ ?_
   refine WC.sr ?_;refine WL.ai (aB rfl) rfl rfl rfl ?_
   rintro _ h1 ⟨b3,rfl,bO,aQ,ay⟩
   refine Go ?_;refine G2 ?_;refine WL.ld rfl (by first | exact aa aQ rfl | assumption) rfl rfl rfl ?_
   refine WL.call (vs:=[_,_]) rfl Tryz.call208 rfl (lP (k.aq ay) lm n oX) rfl rfl rfl ?_
   rintro _ h2 ⟨⟨q',rfl,⟨B,c,hvo⟩,hq'⟩,aH⟩
   rw [he] at hq' ⊢
   dsimp only [fY]
   obtain ⟨qt,qv,qo⟩:=q'
   dsimp only at hvo
   subst hvo
   unfold sX
   refine Go ?_;refine WL.ai (av (fun w=>Tryz.zeroValue261 w)) rfl rfl rfl ?_
   rintro _ h3 ⟨b6,rfl,gb,bn,aP⟩
   refine WL.az (al Tryz.sizeOf261 rfl rfl rfl bn rfl (by simp [Value.oneCell'])) rfl rfl ?_
   rintro _ h4 ⟨bx,aW⟩
   have iH:Ext No h1 h4:=aH.trans (aP.trans' aW (fun q hq e=>by omega))
   have X4:=ay.trans iH
   have k4:=k.aq X4
   refine Go ?_;refine Gs [(0,_),(3,_),(6,_),(7,_)] ?_;refine G3 ?_;refine WL.step (fR (by kernel_rfl) rfl rfl) rfl rfl rfl ?_
   refine Gn ?_
   refine aJ 1 2 ?_ TT.mk
   all_goals (refine ax 1 ?_)
   refine G2 ?_;refine Gs [(4,_),(5,_)] ?_;refine Gt ?_
   exact ct.err rfl (.of k4 (Tn.no X4))
end
theorem uv (l:List (List UInt8)):l.flatMap xu=(l.map Ah).flatMap b0.cells:=by
 rw [List.flatMap_map]
 rfl
theorem vO {h:ah} (n:Int):ag Tryz.prog 222 ⟨[In n]⟩ h fun u h'=>∃ b:Bk,u=.agg ⟨b.cells⟩∧b.ok h'∧b.p=oW n∧(∀ q,b.F q→h.size≤q)∧Ext No h h':=by
 refine calls [(0,_)] Tryz.func222 rfl Tryz.ntmps222 rfl ⟨rfl,trivial⟩ ?_
 refine WC.sr ?_;refine WL.ai (av (fun w=>Tryz.zeroValue140 w)) rfl rfl rfl ?_
 rintro _ h1 ⟨b1,rfl,bO,aQ,ay⟩
 refine Gn ?_;refine G2 ?_;refine WL.call (vs:=[_]) rfl Tryz.call266 rfl (xw n) rfl rfl rfl ?_
 rintro v2 h2 ⟨dC,aH,eN⟩
 obtain ⟨A2,c2,rfl,_⟩:=dC.slice
 refine WL.step (aD (vs:=[_,_]) (cs:=[_,_,_,_,_,_,_,_,_,_,_]) (fun | [a0,a8]=>[a0,(.int .u8 0),(St []),(St []),(St []),(.int .i64 0),(.int .i64 0),(.slice none 0 0),a8,(.slice none 0 0),(.slice none 0 0)] | _=>[]) rfl rfl (by kernel_rfl)) rfl rfl rfl ?_
 refine WL.az (al Tryz.sizeOf140 rfl rfl rfl (aH.obj aQ aO) rfl (by simp [Value.oneCell'])) rfl rfl ?_
 rintro _ h3 ⟨bn,aP⟩
 refine Gn ?_;refine Gs [(2,_)] ?_;refine WC.ret ?_
 repeat' (with_reducible first | refine ba ?_ | refine aV ?_)
 refine bY _ ⟨⟨_,rfl,bB Tryz.isAgg140 Tryz.sizeOf140 bn rfl⟩,trivial⟩ ?_
 have hn:=jv n
 have hl:((gT (da n)).map Ah).length=da n:=by rw [List.length_map,oV]
 have dE:=dC.ext aP (fun q hq e=>by have:=eN q hq;have:=aj aQ;omega)
 rw [uv] at dE
 refine ⟨⟨84,0,[],[],[],0,0,nS,[],.slice A2 (da n) c2,(gT (da n)).map Ah,nS,[],nS,[]⟩,rfl,⟨⟨Rd.nil _ _,by simp⟩,⟨by rw [hl];exact dE.rd,by rw [hl];unfold maxLen;omega⟩,gN _ _,⟨Rd.nil _ _,by simp⟩⟩,rfl,fun q hq=>?_,(ay.trans aH).trans' aP (fun q hq e=>by omega)⟩
 rcases hq with ⟨e,_⟩ | ⟨_,e⟩ | e | ⟨e,_⟩
 · exact absurd e (Nat.lt_irrefl 0)
 · have:=eN q e;have:=ay.size;omega
 · exact (fH rfl e).elim
 · exact absurd e (Nat.lt_irrefl 0)
theorem vP {h:ah} (t:List UInt8) (A:Option Addr) (o:List Int) (c:Nat) (ht:t.length≤100000):ag Tryz.prog 212 ⟨[.agg ⟨[St t,.slice A o.length c]⟩]⟩ h fun u h'=>∃ b:Bk,u=.agg ⟨b.cells⟩∧b.ok h'∧b.p=jd (t,o)∧(∀ q,b.F q→h.size≤q)∧Ext No h h':=by
 have kp:=fun h'=>oK (h:=h') t (by omega)
 have kr:=fun h'=>kS (h:=h') (bj t)
 have kc:=fun h'=>oN (h:=h') (bj t) o.length
 unfold jd
 dsimp only
 unfold gi.cells my at kp kr kc
 cases hr:gx (bj t)
 all_goals
   rw [hr] at kr
   refine calls [(0,_)] Tryz.func212 rfl Tryz.ntmps212 rfl ⟨rfl,trivial⟩ ?_
   all_goals (refine WC.sr ?_;refine WL.ai (aB rfl) rfl rfl rfl ?_;rintro _ h1 ⟨b1,rfl,bO,aQ,ay⟩;refine WL.ai (av (fun w=>Tryz.zeroValue140 w)) rfl rfl rfl ?_;rintro _ h2 ⟨b2,rfl,eS,bH,aH⟩;have bX:=aH.obj aQ aO;have l2:=aj bH;refine Gn ?_;refine G2 ?_;refine WL.ld rfl (by first | exact aa bX rfl | assumption) rfl rfl rfl ?_;refine WL.call (vs:=[_]) rfl Tryz.call214 rfl (kp _) rfl rfl rfl ?_;rintro _ h3 ⟨rfl,aP⟩;refine WL.ai (av (fun w=>Tryz.zeroValue278 w)) rfl rfl rfl ?_;rintro _ h4 ⟨b4,rfl,oF,bx,aW⟩;refine WL.az (al Tryz.sizeOf278 rfl rfl rfl bx rfl (by simp [Value.oneCell'])) rfl rfl ?_;rintro _ h5 ⟨bT,aN⟩;have EH:Ext No h2 h5:=aP.trans (aW.trans' aN (fun q hq e=>by omega));refine Gn ?_;refine Gs [(1,_),(2,_),(3,_)] ?_;refine WC.seq ?_;refine WC.sr ?_;refine WL.step (an Tryz.isAgg278 Tryz.sizeOf278 rfl rfl (by exact At.au bT)) rfl rfl rfl ?_;refine WL.call (vs:=[_]) rfl Tryz.call215 rfl (kr _) rfl rfl rfl ?_;rintro _ h6 ⟨rfl,aM⟩;have qV:=EH.trans aM;have pR:=aM.obj bT aO;refine Go ?_;refine aJ 1 2 ?_ TT.mk)
   all_goals try (
   refine ax 1 ?_
   all_goals (refine WC.sr ?_;refine WL.step (aD (vs:=[_]) (cs:=[_,_,_,_,_,_,_,_,_,_,_]) (fun | [a0]=>[a0,(.int .u8 0),(St []),(St []),(St []),(.int .i64 0),(.int .i64 0),(.slice none 0 0),(.slice none 0 0),(.slice none 0 0),(.slice none 0 0)] | _=>[]) rfl rfl (by kernel_rfl)) rfl rfl rfl ?_;refine WL.az (al Tryz.sizeOf140 rfl rfl rfl (qV.obj bH aO) rfl (by simp [Value.oneCell'])) rfl rfl ?_;rintro _ h7 ⟨bZ,bh⟩;refine Gn ?_;refine Gs [(2,_)] ?_;refine WC.ret ?_;repeat' (with_reducible first | refine ba ?_ | refine aV ?_))
   all_goals (refine bY _ ⟨⟨_,rfl,bB Tryz.isAgg140 Tryz.sizeOf140 (by first | exact bZ | exact iA) rfl⟩,trivial⟩ ?_)
   all_goals (
    first
     | exact ⟨ll 110 0 [],rfl,iz _ _ _ _,rfl,fun q e=>(je e).elim,((ay.trans aH).trans qV).trans' bh (fun q hq e=>by have:=ay.size;omega)⟩
     | exact ⟨b9,rfl,Kp.ext cG (fun q hq e=>by have:=f9 q hq;have:=qV.size;have:=bD.size;omega),p9,fun q hq=>by have:=f9 q hq;have:=qV.size;have:=bD.size;have:=ay.size;have:=aH.size;omega,((ay.trans aH).trans Kq).trans' cG (fun q hq e=>by have:=ay.size;omega)⟩)
   skip)
   all_goals (refine ax 2 ?_;refine WC.skip ?_;refine Gn ?_;refine WC.sr ?_;refine WL.step (an Tryz.isAgg278 Tryz.sizeOf278 rfl rfl (by exact At.au pR)) rfl rfl rfl (Go ?_);refine WL.ld rfl (by first | exact aa (qV.obj bX aO) rfl | assumption) rfl rfl rfl (Go ?_);refine WL.call (vs:=[_,_]) rfl Tryz.call223 rfl (kc _) rfl rfl rfl ?_;rintro _ h8 ⟨rfl,bD⟩;refine WL.call (vs:=[_]) rfl Tryz.call222 rfl (vO _) rfl rfl rfl ?_;rintro _ h9 ⟨b9,rfl,Kp,p9,f9,cg⟩;have Kq:=(qV.trans bD).trans cg;refine WL.az (al Tryz.sizeOf140 rfl rfl rfl (Kq.obj bH aO) rfl Kp.one) rfl rfl ?_;rintro _ iD ⟨iA,cG⟩;refine Gn ?_;refine Gs [(2,_)] ?_;refine WC.ret ?_;repeat' (with_reducible first | refine ba ?_ | refine aV ?_))
   all_goals (refine bY _ ⟨⟨_,rfl,bB Tryz.isAgg140 Tryz.sizeOf140 (by first | exact bZ | exact iA) rfl⟩,trivial⟩ ?_)
   all_goals (
    first
     | exact ⟨ll 110 0 [],rfl,iz _ _ _ _,rfl,fun q e=>(je e).elim,((ay.trans aH).trans qV).trans' bh (fun q hq e=>by have:=ay.size;omega)⟩
     | exact ⟨b9,rfl,Kp.ext cG (fun q hq e=>by have:=f9 q hq;have:=qV.size;have:=bD.size;omega),p9,fun q hq=>by have:=f9 q hq;have:=qV.size;have:=bD.size;have:=ay.size;have:=aH.size;omega,((ay.trans aH).trans Kq).trans' cG (fun q hq e=>by have:=ay.size;omega)⟩)
section
variable {h h':ah} {A:Ad} {st:Int} {sk ov:Bool} {cnt:Int} {L:List (List UInt8 × gR)} {P:List (List UInt8 × ez)}
theorem cB.of {h0 h:ah} {q:Nat} {b:Bk} (ok:b.ok h) (hF:∀ q,b.F q→h0.size≤q) {h1:ah} (x:Ext No h h1) (hq:h1[q]?=some (.cells ⟨b.cells⟩ 140 (0,0))) (hg:h.size≤q) (hs:h0.size≤h.size):cB h0 h1 (.slice (some ⟨q,0,none⟩) 1 1) [b]:=.one hq (ok.ext x fun _ _=>aO) (by omega) fun z hz=>⟨hF z hz,by have:=ok.lt hz;omega⟩
theorem cB.two {h0 h:ah} {q:Nat} {b c:Bk} (hq:h[q]?=some (.cells ⟨b.cells++c.cells⟩ 140 (0,0))) (okb:b.ok h) (okc:c.ok h) (hg:h0.size≤q) (fb:∀ z,b.F z→h0.size≤z∧z < q) (fc:∀ z,c.F z→h0.size≤z∧z < q):cB h0 h (.slice (some ⟨q,0,none⟩) 2 2) [b,c] :=
 ⟨by simpa using dJ hq (len:=2) rfl (by simp [maxLen]),by simpa using ⟨okb,okc⟩,fun z hz=>by simp [Value.ownBlock] at hz;omega,fun x hx z hz=>by rcases List.mem_cons.1 hx with rfl | hx;exact (fb z hz).1;obtain rfl:=List.mem_singleton.1 hx;exact (fc z hz).1,fun x hx z hz e=>by
   simp only [Value.ownBlock,Option.some.injEq] at e
   rcases List.mem_cons.1 hx with rfl | hx
   · have:=(fb z hz).2;omega
   · obtain rfl:=List.mem_singleton.1 hx
     have:=(fc z hz).2;omega⟩
def Is (v:Value) (o:List Int):Bk:=⟨116,0,[],[],[],0,0,v,o,nS,[],nS,[],nS,[]⟩
theorem Gc {h:ah} {v:Value} {o:List Int} (hr:Rd h v 1 o.length (ints o)) (hl:o.length≤20000):(Is v o).ok h:=⟨⟨hr,by show o.length≤maxLen;unfold maxLen;omega⟩,⟨Rd.nil _ _,by simp [Is]⟩,gN _ _,⟨Rd.nil _ _,by simp [Is]⟩⟩
theorem EI {v:Value} {o:List Int} {q:Nat} (hq:(Is v o).F q):v.ownBlock=some q:=by
 rcases hq with ⟨_,e⟩ | ⟨e,_⟩ | e | ⟨e,_⟩
 · exact e
 · exact absurd e (Nat.lt_irrefl 0)
 · exact (fH rfl e).elim
 · exact absurd e (Nat.lt_irrefl 0)
theorem uw (k:Ss h A st sk ov cnt L P) (lm:jB (cw st sk ov cnt L P)) (f:Fm) (hf:f.ok h) (fl:gW f):ag Tryz.prog 148 ⟨[.pointer (some ⟨A.bs,0,none⟩),.agg ⟨f.cells⟩]⟩ h (ct h A P (cA (cw st sk ov cnt L P) f.p)):=by
 have JC:=fun (e:f.what=83)=>show cA (cw st sk ov cnt L P) f.p=_ from if_pos e
 have Kr:=fun (e:¬ f.what=83)=>show cA (cw st sk ov cnt L P) f.p=_ from if_neg e
 obtain ⟨⟨e1,_⟩,⟨e2,_⟩,⟨e3,_⟩,e4,_⟩:=hf
 obtain ⟨oX,nX,xy,j5,Ak,_⟩:=fl
 obtain ⟨fk,w,n,p,t,vo,o,vf,fs,vs,rs,vp,ps,mx⟩:=f
 dsimp only at e1 e2 e3 e4 oX nX xy j5 Ak
 obtain ⟨A1,c1,rfl,_⟩:=e1
 obtain ⟨_,_,rfl,_⟩:=e2
 obtain ⟨_,_,rfl,_⟩:=e3
 obtain ⟨A4,c4,rfl,_⟩:=e4
 by_cases hw:w=83
 · rw [JC hw]
   dsimp only [Fm.cells,Fm.p]
   rcases he:jO (cw st sk ov cnt L P) n with _ | ⟨ea,ec⟩
   · obtain ⟨q,hq⟩:=nF he
     have hqL:=k.sok _ (ca hq)
     have htl:=lm.tl _ (ca hq)
     have hgl:bJ (cw st sk ov cnt L P).L n=some (q.text,q.oids):=by show bJ (qh L) n=_;rw [kV,hq];rfl
     rw [hgl]
     dsimp only at htl hqL ⊢
     have hql:=hqL.2.1
     refine calls [(0,_),(1,_)] Tryz.func148 rfl Tryz.ntmps148 rfl ⟨rfl,rfl,trivial⟩ ?_
     refine WC.sr ?_;refine WL.ai (aB rfl) rfl rfl rfl ?_
     rintro _ h1 ⟨b3,rfl,bO,aQ,ay⟩
     refine Go ?_;refine G3 ?_;refine WL.ld rfl (by first | exact aa aQ rfl | assumption) rfl rfl rfl (Go ?_)
     refine Gs [(0,_),(3,_),(12,_)] ?_
     refine aJ 1 2 ?_ TT.mk
     all_goals (refine ax 1 ?_)
     refine G2 ?_;refine WL.ld rfl (by first | exact aa aQ rfl | assumption) rfl rfl rfl ?_
     refine WL.call (vs:=[_,_]) rfl Tryz.call208 rfl (lP (k.aq ay) lm n oX) rfl rfl rfl ?_
     rintro _ h2 ⟨⟨q',rfl,⟨B,c,hvo⟩,hq'⟩,aH⟩
     rw [he] at hq' ⊢
     have hqq:=Option.some.inj (hq.symm.trans (hq' rfl))
     subst hqq
     obtain ⟨qt,qv,qo⟩:=q
     dsimp only [fY] at hvo hqL htl hql ⊢
     subst hvo
     unfold sX
     refine Go ?_;refine WL.ai (av (fun w=>Tryz.zeroValue261 w)) rfl rfl rfl ?_
     rintro _ h3 ⟨b6,rfl,gb,bn,aP⟩
     refine WL.az (al Tryz.sizeOf261 rfl rfl rfl bn rfl (by simp [Value.oneCell'])) rfl rfl ?_
     rintro _ h4 ⟨bx,aW⟩
     have iH:Ext No h1 h4:=aH.trans (aP.trans' aW (fun q hq e=>by omega))
     have X4:=ay.trans iH
     have k4:=k.aq X4
     have Ht:=hqL.1.aq X4
     refine Go ?_;refine Gs [(6,_),(7,_)] ?_;refine G3 ?_;refine WL.step (cR (by kernel_rfl) rfl rfl) rfl rfl rfl ?_
     refine Gn ?_
     refine aJ 3 4 ?_ TT.mk
     all_goals (refine ax 4 ?_)
     refine WC.skip ?_;refine Gn ?_;refine WC.seq ?_;refine WC.bW (fun h'=>Ext No h4 h') 9 9 rfl dk ?_
     refine WH.tk 0 rfl (fun hq hC=>ad rfl Tryz.underlying261 rfl Tryz.sizeOf39) rfl rfl rfl ?_
     refine WH.tk 1 rfl (fun hq hC=>aA Tryz.isAgg39 rfl (by first | exact hC.cell (by first | exact aa bx rfl | assumption) aO)) rfl rfl rfl ?_
     refine WH.tk 4 rfl (fun hq hC=>an Tryz.isAgg261 Tryz.sizeOf261 rfl rfl (by exact (At.au bx).ext hC aO)) rfl rfl rfl ?_
     refine WH.one 2 (by kernel_rfl) ?_
     refine aE.call (vs:=[_]) rfl rfl Tryz.call206 rfl (ig qo (Ht) (by unfold reachBytes;omega)) rfl rfl rfl ?_ (fun _=>by kernel_rfl)
     rintro v5 h5 ⟨eG,aN,gZ⟩
     obtain ⟨A5,c5,rfl,_⟩:=eG.slice
     refine ⟨fun _=>aN,?_⟩
     refine WH.tk 3 rfl (fun hq hC=>aD (vs:=[_,_]) (cs:=[_,_,_,_,_,_,_,_,_,_,_]) (fun | [a0,a7]=>[a0,(.int .u8 0),(St []),(St []),(St []),(.int .i64 0),(.int .i64 0),a7,(.slice none 0 0),(.slice none 0 0),(.slice none 0 0)] | _=>[]) rfl rfl (by kernel_rfl)) rfl rfl rfl ?_
     refine WH.one 5 (by kernel_rfl) ?_
     refine aE.call (vs:=[_]) rfl rfl Tryz.call212 rfl (vP qt B qo c htl) rfl rfl rfl ?_ (fun _=>by kernel_rfl)
     rintro _ h6 ⟨Ks,rfl,Iu,p6,f6,aM⟩
     refine ⟨fun _=>aN.trans aM,?_⟩
     refine WH.one 6 (by kernel_rfl) ?_
     refine aE.run rfl (aw (vs:=[_,_]) (cs:=[_,_,_,_,_,_,_,_,_,_,_,_,_,_,_,_,_,_,_,_,_,_]) (fun | [.agg ⟨[a0,a1,a2,a3,a4,a5,a6,a7,a8,a9,gd]⟩,.agg ⟨[rE,a12,wS,wT,yN,Fp,Fq,JY,JZ,a20,a21]⟩]=>[a0,a1,a2,a3,a4,a5,a6,a7,a8,a9,gd,rE,a12,wS,wT,yN,Fp,Fq,JY,JZ,a20,a21] | _=>[]) Tryz.underlying80 rfl rfl (by kernel_rfl)) rfl rfl rfl ?_ (fun _=>by kernel_rfl)
     rintro _ h7 ⟨b7,rfl,Ez,bZ,bh⟩
     refine ⟨fun _=>(aN.trans aM).trans bh,?_⟩
     have Hn:Ext No h4 h7:=(aN.trans aM).trans bh
     refine WH.tk 7 rfl (fun hq hC=>aR rfl) rfl rfl rfl ?_
     refine WH.tk 8 rfl (fun hq hC=>aR rfl) rfl rfl rfl ?_
     refine WH.done (by kernel_rfl) ?_
     refine Gn ?_;refine Gs [(4,_),(5,_)] ?_;refine Gt ?_
     have s4:=X4.size
     have s5:=aN.size
     have s6:=aM.size
     have gM:=(eG.ext aM (fun _ _=>aO)).ext bh (fun _ _=>aO)
     exact ⟨_,[Is (.slice A5 qo.length c5) qo,Ks],(fun e=>absurd rfl e),rfl,.two bZ (Gc gM.rd hql) (Iu.ext bh (fun _ _=>aO)) (by omega) (fun z hz=>by have:=gZ z (EI hz);have:=eG.lt (EI hz);omega) (fun z hz=>by have:=f6 z hz;have:=Iu.lt hz;omega),by rw [List.map_cons,List.map_singleton,p6];rfl,.of (((k4.aq aN).aq aM).aq bh) (Tn.no (((X4.trans aN).trans aM).trans bh))⟩
   · dsimp only
     refine calls [(0,_),(1,_)] Tryz.func148 rfl Tryz.ntmps148 rfl ⟨rfl,rfl,trivial⟩ ?_
     refine WC.sr ?_;refine WL.ai (aB rfl) rfl rfl rfl ?_
     rintro _ h1 ⟨b3,rfl,bO,aQ,ay⟩
     refine Go ?_;refine G3 ?_;refine WL.ld rfl (by first | exact aa aQ rfl | assumption) rfl rfl rfl (Go ?_)
     refine Gs [(0,_),(3,_),(12,_)] ?_
     refine aJ 1 2 ?_ TT.mk
     all_goals (refine ax 1 ?_)
     refine G2 ?_;refine WL.ld rfl (by first | exact aa aQ rfl | assumption) rfl rfl rfl ?_
     refine WL.call (vs:=[_,_]) rfl Tryz.call208 rfl (lP (k.aq ay) lm n oX) rfl rfl rfl ?_
     rintro _ h2 ⟨⟨q',rfl,⟨B,c,hvo⟩,hq'⟩,aH⟩
     rw [he]
     obtain ⟨qt,qv,qo⟩:=q'
     dsimp only [fY] at hvo ⊢
     subst hvo
     unfold sX
     refine Go ?_;refine WL.ai (av (fun w=>Tryz.zeroValue261 w)) rfl rfl rfl ?_
     rintro _ h3 ⟨b6,rfl,gb,bn,aP⟩
     refine WL.az (al Tryz.sizeOf261 rfl rfl rfl bn rfl (by simp [Value.oneCell'])) rfl rfl ?_
     rintro _ h4 ⟨bx,aW⟩
     have X4:Ext No h h4:=(ay.trans aH).trans (aP.trans' aW (fun q hq e=>by omega))
     refine Go ?_;refine Gs [(6,_),(7,_)] ?_;refine G3 ?_;refine WL.step (fR (by kernel_rfl) rfl rfl) rfl rfl rfl ?_
     refine Gn ?_
     refine aJ 3 4 ?_ TT.mk
     all_goals (refine ax 3 ?_)
     refine G2 ?_;refine Gs [(4,_),(5,_)] ?_;refine Gt ?_
     exact ct.err rfl (.of (k.aq X4) (Tn.no X4))
 · rw [Kr hw]
   dsimp only [Fm.cells,Fm.p]
   rcases he:gU (cw st sk ov cnt L P) p with _ | ⟨ea,ec⟩
   · obtain ⟨i,hi⟩:=nG he
     have htl:=lm.tp _ (ca hi)
     have hgl:bJ (cw st sk ov cnt L P).P p=some i.d.pl:=by show bJ (fZ P) p=_;rw [gy,hi];rfl
     rw [hgl]
     dsimp only at htl ⊢
     refine calls [(0,_),(1,_)] Tryz.func148 rfl Tryz.ntmps148 rfl ⟨rfl,rfl,trivial⟩ ?_
     refine WC.sr ?_;refine WL.ai (aB rfl) rfl rfl rfl ?_
     rintro _ h1 ⟨b3,rfl,bO,aQ,ay⟩
     refine Go ?_;refine G3 ?_;refine WL.ld rfl (by first | exact aa aQ rfl | assumption) rfl rfl rfl (Go ?_)
     refine Gs [(0,_),(3,_),(12,_)] ?_
     refine aJ 1 2 ?_ TT.mk
     all_goals (refine ax 2 ?_)
     refine WC.skip ?_;refine Gn ?_;refine G2 ?_;refine WL.ld rfl (by first | exact aa aQ rfl | assumption) rfl rfl rfl ?_
     refine WL.call (vs:=[_,_]) rfl Tryz.call213 rfl (eT (k.aq ay) lm p nX) rfl rfl rfl ?_
     rintro _ h2 ⟨⟨d2,rfl,iN,f2,hq'⟩,aH⟩
     rw [he] at hq' ⊢
     obtain ⟨i',hi',kP⟩:=hq' rfl
     have hii:=Option.some.inj (hi.symm.trans hi')
     subst hii
     have hti:d2.text=i.d.text:=congrArg (·.1) kP
     have hto:d2.oids=i.d.oids:=congrArg (·.2.1) kP
     obtain ⟨text,vo,oids,vp,ps',vr,rs',ran,over⟩:=d2
     dsimp only [fY] at hti hto ⊢
     subst hti
     subst hto
     refine Go ?_;refine WL.ai (av (fun w=>Tryz.zeroValue273 w)) rfl rfl rfl ?_
     rintro _ h3 ⟨b6,rfl,gb,bn,aP⟩
     refine WL.az (al Tryz.sizeOf273 rfl rfl rfl bn rfl (fg iN)) rfl rfl ?_
     rintro _ h4 ⟨bx,aW⟩
     have iH:Ext No h1 h4:=aH.trans (aP.trans' aW (fun q hq e=>by omega))
     have X4:=ay.trans iH
     have k4:=k.aq X4
     dsimp only [PD.cells] at bx
     obtain ⟨A6,c6,hvo,_⟩:=id iN.oids
     dsimp only at hvo
     subst hvo
     refine Go ?_;refine Gs [(8,_),(9,_)] ?_;refine G3 ?_;refine WL.step (cR (by kernel_rfl) rfl rfl) rfl rfl rfl ?_
     refine Gn ?_
     refine aJ 5 6 ?_ TT.mk
     all_goals (refine ax 6 ?_)
     refine WC.skip ?_;refine Gn ?_;refine G2 ?_;refine WL.step (an Tryz.isAgg261 Tryz.sizeOf261 rfl rfl (by exact At.pre (xs:=[_,_]) (ys:=[_,_,_,_]) (At.au bx))) rfl rfl rfl ?_
     refine WL.call (vs:=[_]) rfl Tryz.call212 rfl (vP i.d.text A6 i.d.oids c6 htl.1) rfl rfl rfl ?_
     rintro _ h6 ⟨Ks,rfl,Iu,p6,f6,aM⟩
     refine WL.ai (aw (vs:=[_]) (cs:=[_,_,_,_,_,_,_,_,_,_,_]) (fun | [.agg ⟨[a0,a1,a2,a3,a4,a5,a6,a7,a8,a9,gd]⟩]=>[a0,a1,a2,a3,a4,a5,a6,a7,a8,a9,gd] | _=>[]) Tryz.underlying80 rfl rfl (by kernel_rfl)) rfl rfl rfl ?_
     rintro _ h7 ⟨b7,rfl,Ez,bZ,bh⟩
     refine Go ?_;refine Gs [(4,_),(5,_)] ?_;refine Gt ?_
     have s4:=X4.size
     have s6:=aM.size
     exact ⟨_,[Ks],(fun e=>absurd rfl e),rfl,.of Iu (fun q hq=>by have:=f6 q hq;omega) bh bZ (by omega) (by omega),by rw [List.map_singleton,p6];rfl,.of ((k4.aq aM).aq bh) (Tn.no ((X4.trans aM).trans bh))⟩
   · dsimp only
     refine calls [(0,_),(1,_)] Tryz.func148 rfl Tryz.ntmps148 rfl ⟨rfl,rfl,trivial⟩ ?_
     refine WC.sr ?_;refine WL.ai (aB rfl) rfl rfl rfl ?_
     rintro _ h1 ⟨b3,rfl,bO,aQ,ay⟩
     refine Go ?_;refine G3 ?_;refine WL.ld rfl (by first | exact aa aQ rfl | assumption) rfl rfl rfl (Go ?_)
     refine Gs [(0,_),(3,_),(12,_)] ?_
     refine aJ 1 2 ?_ TT.mk
     all_goals (refine ax 2 ?_)
     refine WC.skip ?_;refine Gn ?_;refine G2 ?_;refine WL.ld rfl (by first | exact aa aQ rfl | assumption) rfl rfl rfl ?_
     refine WL.call (vs:=[_,_]) rfl Tryz.call213 rfl (eT (k.aq ay) lm p nX) rfl rfl rfl ?_
     rintro _ h2 ⟨⟨d2,rfl,iN,f2,hq'⟩,aH⟩
     rw [he]
     dsimp only [fY]
     refine Go ?_;refine WL.ai (av (fun w=>Tryz.zeroValue273 w)) rfl rfl rfl ?_
     rintro _ h3 ⟨b6,rfl,gb,bn,aP⟩
     refine WL.az (al Tryz.sizeOf273 rfl rfl rfl bn rfl (fg iN)) rfl rfl ?_
     rintro _ h4 ⟨bx,aW⟩
     have X4:Ext No h h4:=(ay.trans aH).trans (aP.trans' aW (fun q hq e=>by omega))
     refine Go ?_;refine Gs [(8,_),(9,_)] ?_;refine G3 ?_;refine WL.step (fR (by kernel_rfl) rfl rfl) rfl rfl rfl ?_
     refine Gn ?_
     refine aJ 5 6 ?_ TT.mk
     all_goals (refine ax 5 ?_)
     refine G2 ?_;refine Gs [(4,_),(5,_)] ?_;refine Gt ?_
     exact ct.err rfl (.of (k.aq X4) (Tn.no X4))
end
def sl (v:Value) (l:List aX):Bk:=⟨68,0,[],[],[],0,0,.slice none 0 0,[],.slice none 0 0,[],v,l,.slice none 0 0,[]⟩
theorem Da {h:ah} {v:Value} {l:List aX} (c:cF h v l):(sl v l).ok h:=⟨⟨Rd.nil _ _,by simp [sl]⟩,⟨Rd.nil _ _,by simp [sl]⟩,c,⟨Rd.nil _ _,by simp [sl]⟩⟩
theorem Al {h2 h3 h4 h5 h6 h7:ah} {b2 b4 k:Nat} {n1:Bool} {v1 v6:Value} {s1:List UInt8} {l out:List aX} {rest:List Value} {T0:TypeId} (hlo:out.length=k) (hrl:rest.length=(l.length - k) * 2) (hk:k≤l.length)
   (hp:out.map aX.pl=(l.take k).map aX.pl) (ga:l[k]?=some ⟨n1,v1,s1⟩) (bZ:h7[b2]?=some (.cells ⟨(out.flatMap aX.cells++rest).take (0+k * 2)++[.bool n1,v6]++(out.flatMap aX.cells++rest).drop (0+k * 2+2)⟩ T0 (0,0)))
   (hq:∀ q∈out,q.ok h3∧∀ b,q.v.ownBlock=some b→b2 < b) (aP:Ext (fun b=>b=b2) h2 h3) (aW:Ext No h3 h4) (aN:Ext (fun b=>b=b4) h4 h5) (oF:h3.size≤b4) (aM:Ext No h5 h6) (bh:Ext (fun b=>b=b2) h6 h7)
   (fN:Own h6 v6 5 1 s1.length (bu s1)) (Ge:v6.ownBlock=(Value.slice none 0 0).ownBlock∨v6.ownBlock=some h5.size) (hlt:b2 < h3.size) (hs:s1.length≤reachBytes) :
   k+1≤l.length∧(out++[(⟨n1,v6,s1⟩:aX)]).map aX.pl=(l.take (k+1)).map aX.pl∧(∃ rest',h7[b2]?=some (.cells ⟨(out++[(⟨n1,v6,s1⟩:aX)]).flatMap aX.cells++rest'⟩ T0 (0,0))∧rest'.length=(l.length - (k+1)) * 2)∧(∀ q∈out++[(⟨n1,v6,s1⟩:aX)],q.ok h7∧∀ b,q.v.ownBlock=some b→b2 < b)∧Ext (fun b=>b=b2) h2 h7:=by
 have hkl:k < l.length:=(List.getElem?_eq_some_iff.1 ga).1
 have hfl:(out.flatMap aX.cells).length=k * 2:=by rw [cP aX.len,hlo]
 have s4:=aW.size
 have s5:=aN.size
 have e1:(out.flatMap aX.cells++rest).take (0+k * 2)=out.flatMap aX.cells:=by rw [Nat.zero_add,← hfl,List.take_left'];rfl
 have e2:(out.flatMap aX.cells++rest).drop (0+k * 2+2)=rest.drop 2:=by rw [Nat.zero_add,← hfl,List.drop_append];simp
 have fr:∀ b,v6.ownBlock=some b→b2 < b:=fun b e=>by
   rcases Ge with e6 | e6 <;> rw [e6] at e
   · cases e
   · simp at e;omega
 refine ⟨hkl,?_,⟨rest.drop 2,?_,?_⟩,fun q hm=>?_,?_⟩
 · rw [List.map_append,hp,List.take_add_one,ga,List.map_append]
   rfl
 · rw [e1,e2] at bZ
   rw [List.flatMap_append,List.flatMap_singleton]
   exact bZ
 · rw [List.length_drop,hrl];omega
 · rcases List.mem_append.1 hm with hm | hm
   · obtain ⟨q1,q2⟩:=hq q hm
     refine ⟨⟨?_,q1.2⟩,q2⟩
     exact (((q1.1.aq aW).ext' aN fun b h1 e eb=>by have:=q1.1.lt h1 e;omega).aq aM).ext' bh fun b _ e eb=>by have:=q2 b e;omega
   · simp only [List.mem_singleton] at hm
     subst hm
     exact ⟨⟨fN.rd.ext' bh fun b _ e eb=>by have:=fr b e;omega,hs⟩,fr⟩
 · exact (((aP.trans' aW fun _ _ e=>e.elim).trans' aN fun b hb e=>by have:=aP.size;omega).trans' aM fun _ _ e=>e.elim).trans bh
theorem Db {h3 h8:ah} {b1 b2 k:Nat} {l out:List aX} {rest:List Value} {T0:TypeId} (hlo:out.length=k) (hrl:rest.length=(l.length - k) * 2) (hk:k=l.length) (bn:h3[b2]?=some (.cells ⟨out.flatMap aX.cells++rest⟩ T0 (0,0))) (bD:Ext (fun b=>b=b1) h3 h8)
   (hq:∀ q∈out,q.ok h3∧∀ b,q.v.ownBlock=some b→b2 < b) (tQ:b1 < b2) (hl:l.length≤1000000):cF h8 (.slice (some ⟨b2,0,none⟩) l.length l.length) out:=by
 have h0:rest=[]:=List.eq_nil_of_length_eq_zero (by rw [hrl,hk];simp)
 rw [h0,List.append_nil] at bn
 have hll:out.length=l.length:=by omega
 rw [← hll]
 refine ⟨bz (bD.obj bn (fun e=>by omega)) (cP aX.len out),⟨by unfold reachBytes;omega,_,_,rfl,by unfold maxLen;omega⟩,fun q hm=>?_⟩
 obtain ⟨q1,q2⟩:=hq q hm
 exact ⟨q1.1.ext' bD fun b _ e eb=>by have:=q2 b e;omega,q1.2⟩
theorem Am {h:ah} {v:Value} (l:List aX) (hc:cF h v l) (hl:l.length≤1000000):ag Tryz.prog 262 ⟨[v]⟩ h fun u h'=>∃ v' l',u=.agg ⟨(sl v' l').cells⟩∧cF h' v' l'∧l'.map aX.pl=l.map aX.pl∧Ext No h h'∧∀ b,dy v' l' b→h.size≤b:=by
 obtain ⟨hr,⟨_,A,c,rfl,_⟩,hok⟩:=hc
 refine calls [(0,_)] Tryz.func262 rfl Tryz.ntmps262 rfl ⟨rfl,trivial⟩ ?_
 refine WC.sr ?_;refine WL.ai (av (fun w=>Tryz.zeroValue140 w)) rfl rfl rfl ?_
 rintro _ h1 ⟨b1,rfl,bO,aQ,ay⟩
 refine Gn ?_;refine G2 ?_;refine WL.ai (nZ 32 2 Tryz.underlying40 (show Tryz.prog.info? 85=some Tryz.t85 by kernel_rfl) rfl rfl rfl rfl rfl (by omega) (by unfold maxLen;omega)) rfl rfl rfl ?_
 rintro _ h2 ⟨b2,zs,rfl,eS,bH,hzl,_,aH⟩
 have mw:=aj aQ
 have fO:=ay.trans aH
 refine Go ?_;refine G3 ?_;refine Gs [(2,_),(3,_),(9,_),(10,_),(11,_)] ?_;refine WC.block ?_;refine WC.bC (X:=Nat × List aX) (fun x=>([(11,In (x.1:Int))]:Fr)) [(2,_),(3,_),(9,_),(10,_)] (fun x h'=>x.1≤l.length∧x.2.map aX.pl=(l.take x.1).map aX.pl∧(∃ rest,h'[b2]?=some (.cells ⟨x.2.flatMap aX.cells++rest⟩ 85 (0,0))∧rest.length=(l.length - x.1) * 2)∧(∀ q∈x.2,q.ok h'∧∀ b,q.v.ownBlock=some b→b2 < b)∧Ext (fun b=>b=b2) h2 h') (fun x=>l.length - x.1) ((0,[])) ⟨rfl,rfl,rfl,rfl,rfl,trivial⟩ (by exact ⟨Nat.zero_le _,rfl,⟨zs,bH,hzl⟩,by simp,.refl _ _⟩) ?_
 rintro ⟨k,out⟩ h3 ⟨hk,hp,⟨rest,bn,hrl⟩,hq,aP⟩
 simp only at hk hp bn hrl hq
 have hlo:out.length=k:=by simpa [Nat.min_eq_left hk] using congrArg List.length hp
 have E3:Ext No h h3:=fO.trans' aP (fun b hb e=>by have:=ay.size;omega)
 refine WC.sub [(11,_),(2,_),(3,_),(9,_),(10,_)] ⟨rfl,rfl,rfl,rfl,rfl,trivial⟩ ?_
 dsimp only
 refine G2 ?_;refine WC.seq ?_
 refine aJ 1 2 (Hb.mk fun hb=>?_) (Hb.mk fun hb=>?_)
 all_goals try (
 refine ax 1 ?_
 refine WC.skip ?_
 skip)
 all_goals try (
 refine ax 2 ?_
 refine WC.exit ?_
 repeat' (with_reducible first | refine aU ?_ | refine aG rfl ?_ | refine aI ?_ | refine aL ?_ | refine aS ?_)
 refine Br.out (i:=1000) ?_
 skip)
 all_goals (refine Gn ?_;first | refine Br.ab ?_ | refine WC.seq ?_)
 all_goals (first | refine Br.ab ?_ | refine WC.block ?_)
 all_goals (first | refine Br.ab ?_ | refine WC.seq ?_)
 all_goals (
  first
    | (refine Br.ab ?_)
    | (obtain ⟨bL,oL,hA,hbL,hat⟩:=Rd.at_ (hr.aq E3) (by omega)
       obtain ⟨⟨n1,v1,s1⟩,ga⟩:∃ y,l[k]?=some y:=⟨_,List.getElem?_eq_getElem (by omega)⟩
       obtain ⟨rC,hsl⟩:=hok _ (List.mem_of_getElem? ga)
       have rD:At h3 bL (oL+k * 2) [.bool n1,v1]:=At.elem aX.len hat ga
       simp only at rC hsl
       unfold reachBytes at hsl
       obtain ⟨A1,k1,rfl,_⟩:=id rC))
 all_goals (first | refine Br.ab ?_ | refine WC.region ?_)
 all_goals (refine Go ?_;first | refine Br.ab ?_ | (refine WL.step (aF Tryz.underlying40 Tryz.sizeOf85 rfl rfl rfl (by omega) (by first | rfl | assumption)) rfl rfl rfl ?_))
 all_goals (first | refine Br.ab ?_ | (refine WL.step (an Tryz.isAgg85 Tryz.sizeOf85 rfl rfl (by assumption)) rfl rfl rfl ?_))
 all_goals (
  first
    | (refine Br.ab ?_)
    | (refine WL.ai (av (fun w=>Tryz.zeroValue85 w)) rfl rfl rfl ?_
       rintro _ h4 ⟨b4,rfl,oF,bx,aW⟩))
 all_goals (refine Go ?_)
 all_goals (
  first
    | (refine Br.ab ?_)
    | (refine WL.az (al Tryz.sizeOf85 rfl rfl rfl (by assumption) rfl (by simp [Value.oneCell'])) rfl rfl ?_
       rintro _ h5 ⟨bT,aN⟩))
 all_goals (
  first
    | (refine Br.ab ?_)
    | (have E5:Ext No h h5:=(E3.trans aW).trans' aN (fun b hb e=>by have:=E3.size;omega)
       have Kt:=aj bn
       have pP:=(aW.obj bn aO)
       have Iv:=aN.obj pP (fun e=>by omega)))
 all_goals (refine Gn ?_;first | refine Br.ab ?_ | refine Gs [(2,_),(3,_),(4,_),(5,_),(9,_),(10,_),(11,_)] ?_)
 all_goals (first | refine Br.ab ?_ | (refine WC.bW (fun h'=>h'[b4]?=some (.cells ⟨[.bool n1,.slice A1 s1.length k1]⟩ 85 (0,0))) 9 10 rfl dk ?_))
 all_goals (first | refine Br.ab ?_ | (refine WH.tk 0 rfl (fun hq hC=>ak rfl) rfl rfl rfl ?_))
 all_goals (first | refine Br.ab ?_ | (refine WH.tk 1 rfl (fun hq hC=>ak rfl) rfl rfl rfl ?_))
 all_goals (first | refine Br.ab ?_ | (refine WH.tk 2 rfl (fun hq hC=>ad rfl Tryz.underlying85 rfl Tryz.sizeOf4) rfl rfl rfl ?_))
 all_goals (first | refine Br.ab ?_ | (refine WH.tk 3 rfl (fun hq hC=>aA Tryz.isAgg4 rfl (aa hC rfl)) rfl rfl rfl ?_))
 all_goals (first | refine Br.ab ?_ | (refine WH.tk 4 rfl (fun hq hC=>ad rfl Tryz.underlying85 rfl Tryz.sizeOf23) rfl rfl rfl ?_))
 all_goals (first | refine Br.ab ?_ | (refine WH.tk 5 rfl (fun hq hC=>aA Tryz.isAgg23 rfl (aa hC rfl)) rfl rfl rfl ?_))
 all_goals (first | refine Br.ab ?_ | (refine WH.one 6 (by kernel_rfl) ?_))
 all_goals (
  first
    | (refine Br.ab ?_)
    | (refine aE.run rfl (aT (sz:=1) (bytes:=1) rfl Tryz.underlying23 (show Tryz.prog.info? 5=some Tryz.t5 by kernel_rfl) rfl rfl rfl rfl (by decide) rfl rfl (Own.nil _ _ _) (rC.aq E5) (u6 s1) (by simp only [maxLen];omega) (by omega)) rfl rfl rfl ?_ (fun _=>by kernel_rfl)
       rintro v6 h6 ⟨fN,aM,Ge⟩))
 all_goals (first | refine Br.ab ?_ | (refine ⟨fun _=>aM.obj bT (fun e=>by cases e),?_⟩))
 all_goals (
  first
    | (refine Br.ab ?_)
    | (have bN:=aM.obj bT (fun e=>by cases e)
       have Ku:Ext No h5 h6:=aM.mono (fun b _ e=>by cases e)
       have hbb:=aM.obj Iv (fun e=>by cases e)
       rw [Nat.zero_add,List.nil_append] at fN
       obtain ⟨A6,c6,rfl,_⟩:=fN.slice))
 all_goals (first | refine Br.ab ?_ | (refine WH.tk 7 rfl (fun hq hC=>aD (vs:=[_,_]) (cs:=[_,_]) (fun | [a0,a1]=>[a0,a1] | _=>[]) rfl rfl (by kernel_rfl)) rfl rfl rfl ?_))
 all_goals (first | refine Br.ab ?_ | (refine WH.tk 8 rfl (fun hq hC=>aF Tryz.underlying40 Tryz.sizeOf85 rfl rfl rfl (by omega) (by first | rfl | assumption)) rfl rfl rfl ?_))
 all_goals (first | refine Br.ab ?_ | (refine WH.one 9 (by kernel_rfl) ?_))
 all_goals (
  first
    | (refine Br.ab ?_)
    | (refine aE.cQ rfl (nc (k:=2) Tryz.sizeOf85 rfl rfl rfl hbb (by simp [cP aX.len,hlo,hrl];omega) (by simp [Value.oneCell'])) rfl rfl ?_ (fun _=>by kernel_rfl)
       rintro _ h7 ⟨bZ,bh⟩))
 all_goals (first | refine Br.ab ?_ | (refine ⟨fun e=>(by cases e),?_⟩))
 all_goals (first | refine Br.ab ?_ | (refine WH.done (by kernel_rfl) ?_))
 all_goals (refine Gn ?_;first | refine Br.ab ?_ | refine Gs [(2,_),(3,_),(9,_),(10,_),(11,_)] ?_)
 all_goals (first | refine Br.ab ?_ | refine WC.region ?_)
 all_goals (refine Go ?_;first | refine Br.ab ?_ | (exact ⟨(k+1,out++[_]),⟨rfl,rfl,rfl,rfl,rfl,trivial⟩,(by exact Al hlo hrl hk hp ga bZ hq aP aW aN oF Ku bh fN Ge Kt (by unfold reachBytes;omega)),(by simp;omega)⟩))
 try (refine Br.mk (i:=1000) ?_)
 refine Gn ?_;refine Gs [(2,_),(3,_)] ?_;refine G2 ?_;refine WL.step (aD (vs:=[_,_]) (cs:=[_,_,_,_,_,_,_,_,_,_,_]) (fun | [a0,a9]=>[a0,(.int .u8 0),(St []),(St []),(St []),(.int .i64 0),(.int .i64 0),(.slice none 0 0),(.slice none 0 0),a9,(.slice none 0 0)] | _=>[]) rfl rfl (by kernel_rfl)) rfl rfl rfl ?_
 refine WL.az (al Tryz.sizeOf140 rfl rfl rfl (aP.obj (aH.obj aQ aO) (fun e=>by omega)) rfl (by simp [Value.oneCell'])) rfl rfl ?_
 rintro _ h8 ⟨bE,bD⟩
 refine Gn ?_;refine WC.ret ?_
 repeat' (with_reducible first | refine ba ?_ | refine aV ?_)
 refine bY _ ⟨⟨_,rfl,bB Tryz.isAgg140 Tryz.sizeOf140 (by assumption) rfl⟩,trivial⟩ ?_
 exact ⟨_,out,rfl,Db hlo hrl (by omega) bn bD hq (by omega) (by omega),by rw [hp,List.take_of_length_le (by omega)],E3.trans' bD (fun b hb e=>by omega),fun b hb=>by
  have:=ay.size
  rcases hb with ⟨_,e⟩ | ⟨q,hq',_,e⟩
  · simp [Value.ownBlock] at e;omega
  · have:=(hq q hq').2 b e;omega⟩
theorem An {v:Value} {l:List aX} {q:Nat} (hq:(sl v l).F q):dy v l q:=by
 rcases hq with ⟨e,_⟩ | ⟨e,_⟩ | e | ⟨e,_⟩
 · exact absurd e (Nat.lt_irrefl 0)
 · exact absurd e (Nat.lt_irrefl 0)
 · exact e
 · exact absurd e (Nat.lt_irrefl 0)
abbrev Gf (r:List eK):iw:={ kind:=68,row:=r }
theorem qj {h:ah} {v:Value} (L:List Rw) (hL:j4 h v L) (more:Bool) (hm:L.length≤100000) (hr:∀ r∈L,r.l.length≤1000000):ag Tryz.prog 218 ⟨[v,.bool more]⟩ h fun u h'=>∃ B,cB h h' u B∧B.map Bk.p=cU (L.map Rw.pl) more∧Ext No h h':=by
 obtain ⟨hrd,⟨_,A,c,rfl,_⟩,hok⟩:=hL
 cases more
 all_goals
   refine calls [(0,_),(1,_)] Tryz.func218 rfl Tryz.ntmps218 rfl ⟨rfl,rfl,trivial⟩ ?_
   all_goals (refine G2 ?_;refine G2 ?_;refine G3 ?_;refine WC.block ?_)
   all_goals (refine WC.bC (X:=Nat × Value × List Bk) (fun x=>([(10,In (x.1:Int)),(5,x.2.1)]:Fr)) [(0,_),(1,_),(8,_),(9,_)] (fun x h'=>x.1≤L.length∧cB h h' x.2.1 x.2.2∧x.2.2.map Bk.p=(L.take x.1).map (fun r=>Gf r.pl)∧Ext No h h') (fun x=>L.length - x.1) ((0,.slice none 0 0,[])) ⟨rfl,rfl,rfl,rfl,rfl,rfl,trivial⟩ (by exact ⟨Nat.zero_le _,cB.nil _ _,rfl,.refl _ _⟩) ?_)
   all_goals (
    rintro ⟨k,v1,B⟩ h1 ⟨hk,ho,hp,hx⟩
    dsimp only at hk ho hp
    have hBl:B.length=k:=by have:=congrArg List.length hp;simpa [Nat.min_eq_left hk] using this
    have hoo:=ho.own
    obtain ⟨A1,c1,rfl,_⟩:=hoo.slice)
   all_goals (refine WC.sub [(5,_),(10,_),(0,_),(1,_),(8,_),(9,_)] ⟨rfl,rfl,rfl,rfl,rfl,rfl,trivial⟩ ?_;dsimp only)
   all_goals (refine G2 ?_;refine WC.seq ?_;refine aJ 1 2 (Hb.mk fun hb=>?_) (Hb.mk fun hb=>?_))
   all_goals try (
   refine ax 1 ?_
   all_goals (refine WC.skip ?_)
   skip)
   all_goals try (
   refine ax 2 ?_
   all_goals (refine WC.exit ?_;repeat' (with_reducible first | refine aU ?_ | refine aG rfl ?_ | refine aI ?_ | refine aL ?_ | refine aS ?_))
   all_goals (refine Br.out (i:=1000) ?_)
   skip)
   all_goals (refine Gn ?_;first | refine Br.ab ?_ | refine WC.seq ?_)
   all_goals (first | refine Br.ab ?_ | refine WC.block ?_)
   all_goals (first | refine Br.ab ?_ | refine WC.sr ?_)
   all_goals (
    first
      | (refine Br.ab ?_)
      | (obtain ⟨bL,oL,hA,hbL,hat⟩:=Rd.at_ (hrd.aq hx) (by omega)
         obtain ⟨⟨w1,l1⟩,ga⟩:∃ y,L[k]?=some y:=⟨_,List.getElem?_eq_getElem (by omega)⟩
         have rD:=hat.get (p:=oL+k * 1) (v:=w1) k (by rw [List.getElem?_map,ga];exact rfl) (by omega)
         have hcl:=hok _ (List.mem_of_getElem? ga)
         have hll:=hr _ (List.mem_of_getElem? ga)
         dsimp only at hcl hll))
   all_goals (first | refine Br.ab ?_ | (refine WL.step (aF Tryz.underlying271 Tryz.sizeOf40 rfl rfl rfl (by omega) (by first | rfl | assumption)) rfl rfl rfl ?_))
   all_goals (first | refine Br.ab ?_ | (refine WL.ld rfl (by first | exact rD | assumption) rfl rfl rfl ?_))
   all_goals (refine Go ?_;first | refine Br.ab ?_ | refine WC.region ?_)
   all_goals (refine Go ?_)
   all_goals (
    first
      | (refine Br.ab ?_)
      | (refine WL.call (vs:=[_]) rfl Tryz.call262 rfl (Am l1 (hcl.aq hx) hll) rfl rfl rfl ?_
         rintro _ h2 ⟨v2,l2,rfl,mJ,HX,aH,eN⟩
         obtain ⟨_,⟨_,A2,c2,rfl,_⟩,_⟩:=id mJ))
   all_goals (
    first
      | (refine Br.ab ?_)
      | (refine WL.ai (aw (vs:=[_]) (cs:=[_,_,_,_,_,_,_,_,_,_,_]) (fun | [.agg ⟨[a0,a1,a2,a3,a4,a5,a6,a7,a8,a9,gd]⟩]=>[a0,a1,a2,a3,a4,a5,a6,a7,a8,a9,gd] | _=>[]) Tryz.underlying80 rfl rfl (by kernel_rfl)) rfl rfl rfl ?_
         rintro _ h3 ⟨b3,rfl,gb,bn,aP⟩))
   all_goals (
    first
      | (refine Br.ab ?_)
      | (have LN:(sl (.slice A2 l2.length c2) l2).ok h3:=Da (mJ.aq aP)
         have s1:=hx.size
         have s2:=aH.size
         have dE:=(ho.aq aH).aq aP))
   all_goals (
    first
      | (refine Br.ab ?_)
      | (refine WL.ai (aT (sz:=11) (bytes:=168) rfl Tryz.underlying80 (show Tryz.prog.info? 140=some Tryz.t140 by kernel_rfl) rfl rfl rfl rfl (by decide) rfl rfl dE.own (bz bn (len:=1) rfl) LN.one (by simp only [maxLen];omega) (by omega)) rfl rfl rfl ?_
         rintro v4 h4 ⟨fF,aW,pT⟩))
   all_goals (refine Go ?_;first | refine Br.ab ?_ | refine Gs [(0,_),(1,_),(5,_),(8,_),(9,_),(10,_)] ?_)
   all_goals (first | refine Br.ab ?_ | refine WC.region ?_)
   all_goals (refine Go ?_;first | refine Br.ab ?_ | (exact ⟨(k+1,_,B++[_]),⟨rfl,rfl,rfl,rfl,rfl,rfl,trivial⟩,(by exact ⟨by omega,dE.snoc LN (fun z hz=>by have:=eN z (An hz);omega) (fun z hz e=>by have:=eN z (An hz);have:=hoo.lt e;omega) (by have:=aP.size;omega) fF aW pT,by rw [List.map_append,hp,List.take_add_one,ga,List.map_append];simp [Bk.p,sl,Rw.pl,HX],((hx.trans aH).trans aP).trans' aW (fun q hq e=>by have:=ho.vf q e;omega)⟩),(by dsimp only;omega)⟩))
   all_goals (try (refine Br.mk (i:=1000) ?_))
   all_goals (refine Gn ?_;refine Gs [(0,_),(1,_),(5,_)] ?_;refine G3 ?_;refine aJ 3 4 ?_ TT.mk)
   all_goals try (
   refine ax 3 ?_
   all_goals (refine G2 ?_;refine WL.step (aD (vs:=[_]) (cs:=[_,_,_,_,_,_,_,_,_,_,_]) (fun | [a0]=>[a0,(.int .u8 0),(St []),(St []),(St []),(.int .i64 0),(.int .i64 0),(.slice none 0 0),(.slice none 0 0),(.slice none 0 0),(.slice none 0 0)] | _=>[]) rfl rfl (by kernel_rfl)) rfl rfl rfl ?_;refine WL.ai (aw (vs:=[_]) (cs:=[_,_,_,_,_,_,_,_,_,_,_]) (fun | [.agg ⟨[a0,a1,a2,a3,a4,a5,a6,a7,a8,a9,gd]⟩]=>[a0,a1,a2,a3,a4,a5,a6,a7,a8,a9,gd] | _=>[]) Tryz.underlying80 rfl rfl (by kernel_rfl)) rfl rfl rfl ?_;rintro _ h3 ⟨b3,rfl,gb,bn,aP⟩;have dE:=ho.aq aP;refine WL.ai (aT (sz:=11) (bytes:=168) rfl Tryz.underlying80 (show Tryz.prog.info? 140=some Tryz.t140 by kernel_rfl) rfl rfl rfl rfl (by decide) rfl rfl dE.own (bz bn (len:=1) rfl) (iz h3 115 0 []).one (by simp only [maxLen];omega) (by omega)) rfl rfl rfl ?_;rintro v4 h4 ⟨fF,aW,pT⟩;have O4:=dE.snoc (b:=ll 115 0 []) (iz _ _ _ _) (fun z hz=>(je hz).elim) (fun z hz=>(je hz).elim) (by have:=hx.size;have:=aP.size;omega) fF aW pT;refine Go ?_;refine Gs [(4,_)] ?_;refine Gt ?_)
   all_goals (
    obtain rfl:k=L.length:=by omega
    rw [List.take_length] at hp
    refine ⟨_,O4,by rw [List.map_append,hp];simp [cU,Bk.p,ll,Function.comp_def],?_⟩
    first
     | exact (hx.trans aP).trans' aW (fun q hq e=>by have:=ho.vf q e;omega)
     | exact ((hx.trans aH).trans aP).trans' aW (fun q hq e=>by have:=ho.vf q e;omega))
   skip)
   all_goals (refine ax 4 ?_;refine WC.skip ?_;refine Gn ?_;refine G2 ?_;refine WL.call (vs:=[_]) rfl Tryz.call263 rfl (Ag (L.length:Int) (by omega) (by omega)) rfl rfl rfl ?_;rintro _ h2 ⟨rfl,aH⟩;refine WL.step (aD (vs:=[_,_]) (cs:=[_,_,_,_,_,_,_,_,_,_,_]) (fun | [a0,a2]=>[a0,(.int .u8 0),a2,(St []),(St []),(.int .i64 0),(.int .i64 0),(.slice none 0 0),(.slice none 0 0),(.slice none 0 0),(.slice none 0 0)] | _=>[]) rfl rfl (by kernel_rfl)) rfl rfl rfl ?_;refine WL.ai (aw (vs:=[_]) (cs:=[_,_,_,_,_,_,_,_,_,_,_]) (fun | [.agg ⟨[a0,a1,a2,a3,a4,a5,a6,a7,a8,a9,gd]⟩]=>[a0,a1,a2,a3,a4,a5,a6,a7,a8,a9,gd] | _=>[]) Tryz.underlying80 rfl rfl (by kernel_rfl)) rfl rfl rfl ?_;rintro _ h3 ⟨b3,rfl,gb,bn,aP⟩;have dE:=(ho.aq aH).aq aP;refine WL.ai (aT (sz:=11) (bytes:=168) rfl Tryz.underlying80 (show Tryz.prog.info? 140=some Tryz.t140 by kernel_rfl) rfl rfl rfl rfl (by decide) rfl rfl dE.own (bz bn (len:=1) rfl) (iz h3 67 0 (xx L.length)).one (by simp only [maxLen];omega) (by omega)) rfl rfl rfl ?_;rintro v4 h4 ⟨fF,aW,pT⟩;have O4:=dE.snoc (b:=ll 67 0 (xx L.length)) (iz _ _ _ _) (fun z hz=>(je hz).elim) (fun z hz=>(je hz).elim) (by have:=hx.size;have:=aH.size;have:=aP.size;omega) fF aW pT;refine Go ?_;refine Gs [(4,_)] ?_;refine Gt ?_)
   all_goals (
    obtain rfl:k=L.length:=by omega
    rw [List.take_length] at hp
    refine ⟨_,O4,by rw [List.map_append,hp];simp [cU,Bk.p,ll,Function.comp_def],?_⟩
    first
     | exact (hx.trans aP).trans' aW (fun q hq e=>by have:=ho.vf q e;omega)
     | exact ((hx.trans aH).trans aP).trans' aW (fun q hq e=>by have:=ho.vf q e;omega))
section
variable {h h':ah} {A:Ad} {st:Int} {sk ov:Bool} {cnt:Int} {L:List (List UInt8 × gR)} {P:List (List UInt8 × ez)}
theorem qk (k:Ss h A st sk ov cnt L P):ag Tryz.prog 145 ⟨[.pointer (some ⟨A.bp,0,none⟩)]⟩ h fun u h'=>u=.tuple ⟨[]⟩∧Ss h' A st sk ov cnt L []∧Tn A P h h' []∧Ext (fun q=>q=A.mp) h h' :=
 (CP k.se.pb k.se.pm).mono fun u h' ⟨e,hm,hx⟩=>⟨e,(k.cK (P':=[]) hx hm (fun q hq=>nomatch hq)).1,(k.cK (P':=[]) hx hm (fun q hq=>nomatch hq)).2,hx⟩
theorem sm {g:ah} {q:Nat} {tag:List UInt8} {P':List (List UInt8 × ez)} {st':Int} {s:SP} {h1:ah} (k1:Ss h1 A st' sk ov cnt L P') (T1:Tn A P h h1 P') (hx:Ext No h1 g) (hq:g[q]?=some (.cells ⟨F1 67 0 tag⟩ 140 (0,0))) (hg:h1.size≤q) (hs:s=cw st' sk ov cnt L P') (hP:∀ q∈P',q∈P) :
   fi h A L P (s,[{ kind:=67,tag:=tag }],none) (.tuple ⟨[.slice (some ⟨q,0,none⟩) 1 1,fY none]⟩) g:=by
 subst hs
 exact ⟨_,[ll 67 0 tag],(fun e=>absurd rfl e),rfl,.tag hq (by have:=T1.1.size;omega),rfl,_,_,fun _ h=>h,hP,k1.aq hx,rfl,rfl,T1.trans (Tn.no hx)⟩
theorem Aq (k:Ss h A st sk ov cnt L P) (v:gi):ag Tryz.prog 220 ⟨[.pointer (some ⟨A.bs,0,none⟩),.agg ⟨v.cells⟩]⟩ h (fi h A L P (cK (cw st sk ov cnt L P) v)):=by
 have kn:=fun h'=>zS (h:=h') k.sto v
 have ke:=fun h'=>mO (h:=h') v
 have lb:=aj k.se.bq
 unfold gi.cells my at *
 rcases (show v.k = 1 ∧ cK (cw st sk ov cnt L P) v = (cw st sk ov cnt L P, [{ kind := 73 }], none) ∨ v.k ≠ 1 ∧ v.k = 8 ∧ cK (cw st sk ov cnt L P) v = (cw st sk ov cnt L P, [], some (v.c, ([102, 97, 105, 108, 101, 100, 32, 111, 110, 32, 112, 117, 114, 112, 111, 115, 101] : List UInt8)))
     ∨ v.k ≠ 1∧v.k ≠ 8∧cK (cw st sk ov cnt L P) v=(cw (fq st v).1 sk ov cnt L (if cz v=true then [] else P),[{ kind:=67,tag:=(fq st v).2 }],none) by
   unfold cK
   by_cases e1:v.k=1
   · exact .inl ⟨e1,if_pos e1⟩
   · by_cases e2:v.k=8
     · exact .inr (.inl ⟨e1,e2,by rw [if_neg e1,if_pos e2]⟩)
     · refine .inr (.inr ⟨e1,e2,?_⟩)
       rw [if_neg e1,if_neg e2]
       simp only [cw]
       cases cz v <;> rfl) with ⟨e1,e⟩ | ⟨e1,e2,e⟩ | ⟨e1,e2,e⟩
 · rw [e]
   refine calls [(0,_),(1,_)] Tryz.func220 rfl Tryz.ntmps220 rfl ⟨rfl,rfl,trivial⟩ ?_
   refine WC.sr ?_;refine WL.ai (aB rfl) rfl rfl rfl ?_
   rintro _ h1 ⟨b3,rfl,bO,aQ,ay⟩
   refine Go ?_;refine G3 ?_;refine WL.ld rfl (by first | exact aa aQ rfl | assumption) rfl rfl rfl ?_
   refine Gn ?_;refine Gs [(0,_),(3,_),(8,_)] ?_;refine WC.block ?_;refine G2 ?_
   refine aJ 1 2 ?_ TT.mk
   all_goals (refine ax 1 ?_)
   refine WC.sr ?_;refine WL.call (vs:=[_]) rfl Tryz.call207 rfl (iq 73) rfl rfl rfl ?_
   rintro _ h6 ⟨q,rfl,C9,hgq,aM⟩
   refine Go ?_;refine Gs [(4,_),(5,_)] ?_;refine Gt ?_
   exact ⟨_,[ll 73 0 []],(fun e=>absurd rfl e),rfl,.tag C9 (by have:=ay.size;omega),rfl,_,_,fun _ h=>h,fun _ h=>h,(k.aq ay).aq aM,rfl,rfl,Tn.no (ay.trans aM)⟩
 · rw [e]
   refine calls [(0,_),(1,_)] Tryz.func220 rfl Tryz.ntmps220 rfl ⟨rfl,rfl,trivial⟩ ?_
   refine WC.sr ?_;refine WL.ai (aB rfl) rfl rfl rfl ?_
   rintro _ h1 ⟨b3,rfl,bO,aQ,ay⟩
   refine Go ?_;refine G3 ?_;refine WL.ld rfl (by first | exact aa aQ rfl | assumption) rfl rfl rfl ?_
   refine Gn ?_;refine Gs [(0,_),(3,_),(8,_)] ?_;refine WC.block ?_;refine G2 ?_
   refine aJ 1 2 ?_ TT.mk
   all_goals (refine ax 2 ?_)
   refine G2 ?_;refine Gs [(0,_),(3,_),(12,_)] ?_
   refine aJ 3 4 ?_ TT.mk
   all_goals (refine ax 3 ?_)
   refine G2 ?_;refine WL.ld rfl (by first | exact aa aQ rfl | assumption) rfl rfl rfl ?_
   refine WL.call (vs:=[_,_]) rfl Tryz.call204 rfl (iu _ _) rfl rfl rfl ?_
   rintro _ hq ⟨rfl,hz⟩
   replace hz:=hz.symm
   subst hz
   refine Go ?_;refine Gs [(4,_),(5,_)] ?_;refine Gt ?_
   exact ⟨_,[],fun _=>rfl,rfl,cB.nil _ _,rfl,_,_,fun _ h=>h,fun _ h=>h,k.aq ay,rfl,rfl,Tn.no ay⟩
 · rw [e]
   clear e
   cases hex:cz v
   all_goals
     rw [hex] at ke
     refine calls [(0,_),(1,_)] Tryz.func220 rfl Tryz.ntmps220 rfl ⟨rfl,rfl,trivial⟩ ?_
     all_goals (refine WC.sr ?_;refine WL.ai (aB rfl) rfl rfl rfl ?_;rintro _ h1 ⟨b3,rfl,bO,aQ,ay⟩;have k1:=k.aq ay;have hb:=k1.se.bq;(have n3:¬ b3=A.bs:=by omega);refine Go ?_;refine G3 ?_;refine WL.ld rfl (by first | exact aa aQ rfl | assumption) rfl rfl rfl ?_;refine Gn ?_;refine Gs [(0,_),(3,_),(8,_)] ?_;refine WC.block ?_;refine G2 ?_;refine aJ 1 2 ?_ TT.mk;refine ax 2 ?_;refine G2 ?_;refine Gs [(0,_),(3,_),(12,_)] ?_;refine aJ 3 4 ?_ TT.mk;refine ax 4 ?_;refine WC.skip ?_;refine Gn ?_;refine G2 ?_;refine WC.seq ?_;refine WC.bW (fun h'=>Ext (fun q=>q=A.bs) h1 h') 14 14 rfl dk ?_;refine WH.tk 0 rfl (fun hq hC=>ak rfl) rfl rfl rfl ?_;refine WH.tk 1 rfl (fun hq hC=>ak rfl) rfl rfl rfl ?_;refine WH.tk 2 rfl (fun hq hC=>ae rfl) rfl rfl rfl ?_;refine WH.tk 3 rfl (fun hq hC=>ad rfl Tryz.underlying153 rfl Tryz.sizeOf5) rfl rfl rfl ?_;refine WH.tk 5 rfl (fun hq hC=>an Tryz.isAgg278 Tryz.sizeOf278 rfl rfl (by exact (At.au aQ).ext hC n3)) rfl rfl rfl ?_;refine WH.one 4 (by kernel_rfl) ?_;refine aE.run rfl (bK.r (aA Tryz.isAgg5 rfl (by first | exact aa hb rfl | assumption))) rfl rfl rfl ?_ (fun _=>by kernel_rfl);rintro _ hz ⟨rfl,_⟩;subst hz;refine ⟨fun _=>.refl _ _,?_⟩;refine WH.one 6 (by kernel_rfl) ?_;refine aE.call (vs:=[_,_]) rfl rfl Tryz.call264 rfl (kn _) rfl rfl rfl ?_ (fun _=>by kernel_rfl);rintro _ h2 ⟨rfl,aH⟩;refine ⟨fun _=>aH.mono fun _ _ e=>e.elim,?_⟩;(have LO:Ext (fun q=>q=A.bs) h1 h2:=aH.mono fun _ _ e=>e.elim);have Kv:=aH.obj hb aO;refine WH.tk 7 rfl (fun hq hC=>ak rfl) rfl rfl rfl ?_;refine WH.tk 8 rfl (fun hq hC=>bU rfl rfl) rfl rfl rfl ?_;refine WH.tk 9 rfl (fun hq hC=>bU rfl rfl) rfl rfl rfl ?_;refine WH.tk 10 rfl (fun hq hC=>ae rfl) rfl rfl rfl ?_;refine WH.tk 11 rfl (fun hq hC=>ad rfl Tryz.underlying153 rfl Tryz.sizeOf5) rfl rfl rfl ?_;refine WH.one 12 (by kernel_rfl) ?_;refine aE.cQ rfl (aC Tryz.sizeOf5 rfl rfl Kv (Nat.le_of_ble_eq_true rfl) rfl rfl) rfl rfl ?_ (fun _=>by kernel_rfl);rintro _ h3 ⟨bn,aP⟩;refine ⟨fun _=>LO.trans aP,?_⟩;have ED:=LO.trans aP;obtain ⟨k3,t3⟩:=(k1.aq aH).jL aP bn (r6 k.sto v);have T3:=(Tn.no (A:=A) (P:=P) (ay.trans aH)).trans t3;refine WH.tk 13 rfl (fun hq hC=>aR rfl) rfl rfl rfl ?_;refine WH.done (by kernel_rfl) ?_;refine Gn ?_;refine Gs [(0,_),(3,_),(6,_)] ?_;refine WC.seq ?_;refine WC.sr ?_;refine WL.step (an Tryz.isAgg278 Tryz.sizeOf278 rfl rfl (by exact (At.au aQ).ext ED n3)) rfl rfl rfl ?_;refine WL.call (vs:=[_]) rfl Tryz.call265 rfl (ke _) rfl rfl rfl ?_;rintro _ h4 ⟨rfl,aW⟩;have k4:=k3.aq aW;have T4:=T3.trans (Tn.no (A:=A) (P:=P) aW))
     all_goals (refine Gn ?_;refine aJ 5 6 ?_ TT.mk)
     all_goals try (
     refine ax 5 ?_
     all_goals (refine WC.region (Go ?_);refine WL.step (ae rfl) rfl rfl rfl (Go ?_);refine WL.ld rfl (by first | exact aa k4.se.bq rfl | assumption) rfl rfl rfl ?_;refine WL.call (vs:=[_]) rfl Tryz.call145 rfl (qk k4) rfl rfl rfl ?_;rintro _ h5 ⟨rfl,k5,t5,aN⟩;have T5:=T4.trans t5;refine Gn ?_)
     skip)
     all_goals try (
     refine ax 6 ?_
     all_goals (refine WC.skip ?_)
     skip)
     all_goals (refine Gn ?_;refine Gs [(6,_)] ?_;refine G2 ?_;refine WL.step (aD (vs:=[_,_]) (cs:=[_,_,_,_,_,_,_,_,_,_,_]) (fun | [a0,a2]=>[a0,(.int .u8 0),a2,(St []),(St []),(.int .i64 0),(.int .i64 0),(.slice none 0 0),(.slice none 0 0),(.slice none 0 0),(.slice none 0 0)] | _=>[]) rfl rfl (by kernel_rfl)) rfl rfl rfl ?_;refine WL.ai (aw (vs:=[_]) (cs:=[_,_,_,_,_,_,_,_,_,_,_]) (fun | [.agg ⟨[a0,a1,a2,a3,a4,a5,a6,a7,a8,a9,gd]⟩]=>[a0,a1,a2,a3,a4,a5,a6,a7,a8,a9,gd] | _=>[]) Tryz.underlying80 rfl rfl (by kernel_rfl)) rfl rfl rfl ?_;rintro _ h6 ⟨b6,rfl,oG,bN,aM⟩;refine Go ?_;refine Gs [(4,_),(5,_)] ?_;refine Gt ?_)
     all_goals (
      first
       | exact sm k4 T4 aM bN oG rfl (fun _ h=>h)
       | exact sm k5 T5 aM bN oG rfl (fun _ h=>nomatch h))
theorem Gh (k:Ss h A st sk ov cnt L P) (f:Fm) (hf:f.ok h):ag Tryz.prog 150 ⟨[.pointer (some ⟨A.bs,0,none⟩),.agg ⟨f.cells⟩]⟩ h (ct h A P (gV (cw st sk ov cnt L P) f.p)):=by
 have JC:=fun (e:f.what=83)=>show gV (cw st sk ov cnt L P) f.p=_ from if_pos e
 have Kr:=fun (e:¬ f.what=83)=>show gV (cw st sk ov cnt L P) f.p=_ from if_neg e
 obtain ⟨⟨e1,_⟩,⟨e2,_⟩,⟨e3,_⟩,e4,_⟩:=hf
 obtain ⟨fk,w,n,p,t,vo,o,vf,fs,vs,rs,vp,ps,mx⟩:=f
 dsimp only at e1 e2 e3 e4
 obtain ⟨A1,c1,rfl,_⟩:=e1
 obtain ⟨_,_,rfl,_⟩:=e2
 obtain ⟨_,_,rfl,_⟩:=e3
 obtain ⟨A4,c4,rfl,_⟩:=e4
 by_cases hw:w=83
 · rw [JC hw]
   dsimp only [Fm.cells,Fm.p]
   refine calls [(0,_),(1,_)] Tryz.func150 rfl Tryz.ntmps150 rfl ⟨rfl,rfl,trivial⟩ ?_
   refine WC.sr ?_;refine WL.ai (aB rfl) rfl rfl rfl ?_
   rintro _ h1 ⟨b3,rfl,bO,aQ,ay⟩
   have k1:=k.aq ay
   have hb:=k1.se.bq
   have hms:=k1.se.stm
   refine Go ?_;refine G3 ?_;refine WL.ld rfl (by first | exact aa aQ rfl | assumption) rfl rfl rfl (Go ?_)
   refine Gs [(0,_),(3,_),(8,_)] ?_
   refine aJ 1 2 ?_ TT.mk
   all_goals (refine ax 1 ?_)
   refine WC.kD 6 dk (by kernel_rfl) ?_
   show WS _ _ _ [_,_,_,_,_,_] _ _ _
   refine WS.step (ak rfl) rfl rfl rfl ?_;refine WS.step (ae rfl) rfl rfl rfl ?_;refine WS.step (ad rfl Tryz.underlying153 rfl Tryz.sizeOf149) rfl rfl rfl ?_;refine WS.step (aA Tryz.isAgg149 rfl (by first | exact aa hb rfl | assumption)) rfl rfl rfl ?_
   refine WS.step (ad rfl Tryz.underlying42 rfl Tryz.sizeOf9) rfl rfl rfl ?_;refine WS.step (aA Tryz.isAgg9 rfl (by first | exact aa aQ rfl | assumption)) rfl rfl rfl ?_
   refine WS.nil ?_
   show WL _ _ _ [_] _ _ _
   refine WL.az (fD rfl fJ Tryz.underlying149 Tryz.underlying9 rfl rfl hms) rfl rfl ?_
   rintro _ h2 ⟨oY,aH⟩
   rw [eJ] at oY
   obtain ⟨k2,t2⟩:=k1.nA aH oY (fun q hq=>.inl (cC hq).1)
   have T2:=(Tn.no (A:=A) (P:=P) ay).trans t2
   refine WL.nil ?_;refine Gn ?_;refine WC.sr ?_;refine WL.call (vs:=[_]) rfl Tryz.call207 rfl (iq 51) rfl rfl rfl ?_
   rintro _ h6 ⟨q,rfl,C9,hgq,aM⟩
   refine Go ?_;refine Gs [(4,_),(5,_)] ?_;refine Gt ?_
   exact ⟨_,[ll 51 0 []],(fun e=>absurd rfl e),rfl,.tag C9 (by have:=T2.1.size;omega),rfl,_,_,k2.aq aM,kW _ _,rfl,T2.trans (Tn.no aM)⟩
 · rw [Kr hw]
   dsimp only [Fm.cells,Fm.p]
   rcases hg:bJ P p with _ | i
   · have hlk:cY (fh vJ P) p=none:=by rw [cS,hg];rfl
     have hde:cj P p=P:=List.filter_eq_self.2 fun q hq=>by simpa using mP hg q hq
     have kd:=fun (g:ah) (k:Ss g A st sk ov cnt L P)=>zi p k.se.pb k.se.pm hlk
     refine calls [(0,_),(1,_)] Tryz.func150 rfl Tryz.ntmps150 rfl ⟨rfl,rfl,trivial⟩ ?_
     refine WC.sr ?_;refine WL.ai (aB rfl) rfl rfl rfl ?_
     rintro _ h1 ⟨b3,rfl,bO,aQ,ay⟩
     have k1:=k.aq ay
     have hb:=k1.se.bq
     refine Go ?_;refine G3 ?_;refine WL.ld rfl (by first | exact aa aQ rfl | assumption) rfl rfl rfl (Go ?_)
     refine Gs [(0,_),(3,_),(8,_)] ?_
     refine aJ 1 2 ?_ TT.mk
     all_goals (refine ax 2 ?_)
     refine WC.kD 6 dk (by kernel_rfl) ?_
     show WS _ _ _ [_,_,_,_,_,_] _ _ _
     refine WS.step (ak rfl) rfl rfl rfl ?_;refine WS.step (ae rfl) rfl rfl rfl ?_;refine WS.step (ad rfl Tryz.underlying153 rfl Tryz.sizeOf150) rfl rfl rfl ?_;refine WS.step (aA Tryz.isAgg150 rfl (by first | exact aa hb rfl | assumption)) rfl rfl rfl ?_
     refine WS.step (ad rfl Tryz.underlying42 rfl Tryz.sizeOf9) rfl rfl rfl ?_;refine WS.step (aA Tryz.isAgg9 rfl (by first | exact aa aQ rfl | assumption)) rfl rfl rfl ?_
     refine WS.nil ?_
     show WL _ _ _ [_] _ _ _
     refine WL.call (vs:=[_,_]) rfl Tryz.call221 rfl (kd _ k1) rfl rfl rfl ?_
     rintro _ hq ⟨rfl,hz⟩
     replace hz:=hz.symm
     subst hz
     refine WL.nil ?_;refine Gn ?_;refine WC.sr ?_;refine WL.call (vs:=[_]) rfl Tryz.call207 rfl (iq 51) rfl rfl rfl ?_
     rintro _ h6 ⟨q,rfl,C9,hgq,aM⟩
     refine Go ?_;refine Gs [(4,_),(5,_)] ?_;refine Gt ?_
     exact ⟨_,[ll 51 0 []],(fun e=>absurd rfl e),rfl,.tag C9 (by have:=ay.size;omega),rfl,_,_,k1.aq aM,rfl,(congrArg fZ hde).symm.trans (mS _ _),Tn.no (ay.trans aM)⟩
   · have kd:=fun (g:ah) (k:Ss g A st sk ov cnt L P)=>Ey (k.pe hg)
     refine calls [(0,_),(1,_)] Tryz.func150 rfl Tryz.ntmps150 rfl ⟨rfl,rfl,trivial⟩ ?_
     refine WC.sr ?_;refine WL.ai (aB rfl) rfl rfl rfl ?_
     rintro _ h1 ⟨b3,rfl,bO,aQ,ay⟩
     have k1:=k.aq ay
     have hb:=k1.se.bq
     refine Go ?_;refine G3 ?_;refine WL.ld rfl (by first | exact aa aQ rfl | assumption) rfl rfl rfl (Go ?_)
     refine Gs [(0,_),(3,_),(8,_)] ?_
     refine aJ 1 2 ?_ TT.mk
     all_goals (refine ax 2 ?_)
     refine WC.kD 6 dk (by kernel_rfl) ?_
     show WS _ _ _ [_,_,_,_,_,_] _ _ _
     refine WS.step (ak rfl) rfl rfl rfl ?_;refine WS.step (ae rfl) rfl rfl rfl ?_;refine WS.step (ad rfl Tryz.underlying153 rfl Tryz.sizeOf150) rfl rfl rfl ?_;refine WS.step (aA Tryz.isAgg150 rfl (by first | exact aa hb rfl | assumption)) rfl rfl rfl ?_
     refine WS.step (ad rfl Tryz.underlying42 rfl Tryz.sizeOf9) rfl rfl rfl ?_;refine WS.step (aA Tryz.isAgg9 rfl (by first | exact aa aQ rfl | assumption)) rfl rfl rfl ?_
     refine WS.nil ?_
     show WL _ _ _ [_] _ _ _
     refine WL.call (vs:=[_,_]) rfl Tryz.call221 rfl (kd _ k1) rfl rfl rfl ?_
     rintro _ h2 ⟨rfl,oY,aH⟩
     rw [eJ] at oY
     obtain ⟨k2,t2⟩:=k1.cK aH oY (fun q hq=>(cC hq).1)
     have T2:=(Tn.no (A:=A) (P:=P) ay).trans t2
     refine WL.nil ?_;refine Gn ?_;refine WC.sr ?_;refine WL.call (vs:=[_]) rfl Tryz.call207 rfl (iq 51) rfl rfl rfl ?_
     rintro _ h6 ⟨q,rfl,C9,hgq,aM⟩
     refine Go ?_;refine Gs [(4,_),(5,_)] ?_;refine Gt ?_
     exact ⟨_,[ll 51 0 []],(fun e=>absurd rfl e),rfl,.tag C9 (by have:=T2.1.size;omega),rfl,_,_,k2.aq aM,rfl,mS _ _,T2.trans (Tn.no aM)⟩
theorem sn (k:Ss h A st sk ov cnt L P):ag Tryz.prog 100 ⟨[.pointer (some ⟨A.bs,0,none⟩)]⟩ h fun u h'=>u=.agg ⟨F1 90 st []⟩∧Ss h' A st sk ov cnt L (if st=73 then [] else P)∧Tn A P h h' (if st=73 then [] else P)∧Ext (fun q=>q=A.mp) h h':=by
 have hb:=k.se.bq
 by_cases e:st=73
 · rw [if_pos e]
   refine calls [(0,_)] Tryz.func100 rfl Tryz.ntmps100 rfl ⟨rfl,trivial⟩ ?_
   refine WC.sr ?_;refine WL.ai (av (fun w=>Tryz.zeroValue140 w)) rfl rfl rfl ?_
   rintro _ h1 ⟨b2,rfl,bO,bH,ay⟩
   have k1:=k.aq ay
   have l2:=aj bH
   refine Gn ?_;refine G3 ?_;refine WL.step (ae rfl) rfl rfl rfl (Go ?_);refine WL.ld rfl (by first | exact aa k1.se.bq rfl | assumption) rfl rfl rfl (Go ?_)
   refine Gs [(0,_),(2,_),(7,_)] ?_
   refine aJ 1 2 ?_ TT.mk
   all_goals (refine ax 1 ?_)
   refine WC.region (Go ?_);refine WL.step (ae rfl) rfl rfl rfl (Go ?_);refine WL.ld rfl (by first | exact aa k1.se.bq rfl | assumption) rfl rfl rfl ?_
   refine WL.call (vs:=[_]) rfl Tryz.call145 rfl (qk k1) rfl rfl rfl ?_
   rintro _ h2 ⟨rfl,k2,t2,aH⟩
   have Iw:=t2.1.obj bH (k1.not bH (by decide) (by decide) (by decide))
   refine Gn ?_;refine Gn ?_;refine G2 ?_;refine WL.step (ae rfl) rfl rfl rfl (Go ?_);refine WL.ld rfl (by first | exact aa k2.se.bq rfl | assumption) rfl rfl rfl ?_
   refine WL.step (aD (vs:=[_,_]) (cs:=[_,_,_,_,_,_,_,_,_,_,_]) (fun | [a0,a1]=>[a0,a1,(St []),(St []),(St []),(.int .i64 0),(.int .i64 0),(.slice none 0 0),(.slice none 0 0),(.slice none 0 0),(.slice none 0 0)] | _=>[]) rfl rfl (by kernel_rfl)) rfl rfl rfl ?_
   refine WL.az (al Tryz.sizeOf140 rfl rfl rfl Iw rfl (by simp [Value.oneCell'])) rfl rfl ?_
   rintro _ h3 ⟨bn,aP⟩
   refine Gn ?_;refine Gs [(2,_)] ?_;refine WC.ret ?_
   repeat' (with_reducible first | refine ba ?_ | refine aV ?_)
   refine bY _ ⟨⟨_,rfl,bB Tryz.isAgg140 Tryz.sizeOf140 bn rfl⟩,trivial⟩ ?_
   have X3:Ext (fun q=>q=A.mp) h h3:=((ay.mono fun _ _ e=>e.elim).trans aH).trans' aP (fun q hq e=>by omega)
   have kk:=k.cK (P':=[]) X3 (k2.se.pm.ext aP (fun e=>eo k2.se.pm Iw e.symm)) (fun q hq=>nomatch hq)
   exact ⟨rfl,kk.1,kk.2,X3⟩
 · rw [if_neg e]
   refine calls [(0,_)] Tryz.func100 rfl Tryz.ntmps100 rfl ⟨rfl,trivial⟩ ?_
   refine WC.sr ?_;refine WL.ai (av (fun w=>Tryz.zeroValue140 w)) rfl rfl rfl ?_
   rintro _ h1 ⟨b2,rfl,bO,bH,ay⟩
   have k1:=k.aq ay
   refine Gn ?_;refine G3 ?_;refine WL.step (ae rfl) rfl rfl rfl (Go ?_);refine WL.ld rfl (by first | exact aa k1.se.bq rfl | assumption) rfl rfl rfl (Go ?_)
   refine Gs [(0,_),(2,_),(7,_)] ?_
   refine aJ 1 2 ?_ TT.mk
   all_goals (refine ax 2 ?_)
   refine WC.skip ?_;refine Gn ?_;refine G2 ?_;refine WL.step (ae rfl) rfl rfl rfl (Go ?_);refine WL.ld rfl (by first | exact aa k1.se.bq rfl | assumption) rfl rfl rfl ?_
   refine WL.step (aD (vs:=[_,_]) (cs:=[_,_,_,_,_,_,_,_,_,_,_]) (fun | [a0,a1]=>[a0,a1,(St []),(St []),(St []),(.int .i64 0),(.int .i64 0),(.slice none 0 0),(.slice none 0 0),(.slice none 0 0),(.slice none 0 0)] | _=>[]) rfl rfl (by kernel_rfl)) rfl rfl rfl ?_
   refine WL.az (al Tryz.sizeOf140 rfl rfl rfl bH rfl (by simp [Value.oneCell'])) rfl rfl ?_
   rintro _ h3 ⟨bn,aP⟩
   refine Gn ?_;refine Gs [(2,_)] ?_;refine WC.ret ?_
   repeat' (with_reducible first | refine ba ?_ | refine aV ?_)
   refine bY _ ⟨⟨_,rfl,bB Tryz.isAgg140 Tryz.sizeOf140 bn rfl⟩,trivial⟩ ?_
   have X3:Ext No h h3:=ay.trans' aP (fun q hq e=>by omega)
   exact ⟨rfl,k.aq X3,Tn.no X3,X3.mono fun _ _ e=>e.elim⟩
theorem Dc (k:Ss h A st sk ov cnt L P):ag Tryz.prog 100 ⟨[.pointer (some ⟨A.bs,0,none⟩)]⟩ h fun u h'=>u=.agg ⟨F1 90 st []⟩∧Sv h A P h' (ep (cw st sk ov cnt L P)).1∧Ext (fun q=>q=A.mp) h h' :=
 (sn k).mono fun u h' ⟨e,kk,tt,x⟩=>⟨e,⟨L,_,kk,rfl,by by_cases e:st=73 <;> simp [ep,cw,e,fZ],tt⟩,x⟩
end
end Go.Proofs.YtopgddfgefnmbaaGreatDoor
namespace Go.RK
open Go
section
variable {P:Program} {f:Fr} {h:ah} {d:Option Tmp} {ty:TypeId} {pos:String} {af:Array Edge} {g:Option (Nat × Bool)}
theorem so {k:FuncId} {x y:Operand} {a b:Value} {ts:Array TypeId} {R:Value→ah→Prop} (hc:∀ w:World,w.heap=h→∃ u w',eE w w'∧R u w'.heap∧(callFunc k #[a,b]).run P w=.ok (.value u) w') (hx:f.ev x=some a) (hy:f.ev y=some b) :
   eO P f ⟨d,.call { callee:=.value (.func k),args:=#[x,y],argTypes:=ts },ty,pos,af,g⟩ h R :=
 fun ρ w ha hw=>by
   have e:ρ (.func k)=.func (.func k) #[] #[]:=ha _ _ rfl
   obtain ⟨u,w',hs,hR,hr⟩:=hc w hw
   exact ⟨u,w',hs,hR,.inl (by simp [execOp,resolve,Deferred.ofValue,invoke,e,ha _ _ hx,ha _ _ hy,hr])⟩
theorem ux {w:World} {b o:Nat} {cs:List Value} {e:TypeId} {n m:Int} (hb:w.heap[b]?=some (.cells ⟨cs⟩ e (0,0))) (ho:cs[o]?=some (In n)) (h0 : -9223372036854775808≤n+m) (h1:n+m≤9223372036854775807) :
   ∃ w',(Extern.Atomic.update (Op.intArith .add) .i64 true #[.pointer (some ⟨b,o,Option.none⟩),In m]).run P w=.ok (In (n+m)) w'∧eE w w'∧w'.heap=w.heap.setIfInBounds b (.cells ⟨cs.set o (In (n+m))⟩ e (0,0)):=by
 have hlt:o < cs.length:=(List.getElem?_eq_some_iff.1 ho).1
 obtain ⟨w',hr,hs,hh⟩:=eY (P:=P) (v:=In (n+m)) hb (o:=o) (by simpa using hlt) rfl
 have hc:w.cell? ⟨b,o,Option.none⟩=some (In n):=by
   simp only [World.cell?,hb]
   simpa using ho
 have qS:(store ⟨b,o,Option.none⟩ (In (n+m)) .atomic).run P w=.ok () w':=by
   rw [run_store P w _ _ _ rfl] at hr ⊢
   simp only [hc] at hr ⊢
   exact hr
 refine ⟨w',?_,hs,by rw [hh];simp⟩
 have hl:(load ⟨b,o,Option.none⟩ .atomic).run P w=.ok (In n) w:=by
   unfold load
   simp [Sem.run,hc]
 have hw:IntKind.i64.wrap (n+m)=n+m:=by
   simp [IntKind.wrap,IntKind.bits,IntKind.signed]
   omega
 have hrd:(Extern.Atomic.read (.int .i64) ⟨b,o,Option.none⟩).run P w=.ok (In n) w:=by
   simp only [Extern.Atomic.read,Sem.run_bind,hl,Result.andThen]
   rfl
 have hu:Extern.Atomic.update (Op.intArith .add) .i64 true #[.pointer (some ⟨b,o,Option.none⟩),In m]=(do
   let a ← asAddr (.pointer (some ⟨b,o,Option.none⟩))
   let old ← Extern.Atomic.read (.int .i64) a
   let new ← Op.intArith .add .i64 (← asInt old) (← asInt (In m))
   store a new .atomic
   pure new):=rfl
 rw [hu]
 have hi:∀ (q:Int) (w:World),(asIntOf (In q)).run P w=.ok (IntKind.i64,q) w:=fun _ _=>rfl
 simp [asAddr,asInt,hi,hrd,Op.intArith,qS,hw,Result.andThen]
end
end Go.RK
