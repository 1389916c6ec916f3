import Derived.Test.YtjgeofdgdlmcoaaGreatDoorPMixLonger6
import Derived.Test.YtjgeofdgdlmcoaaGreatDoorRows
import Derived.Lay
import Derived.LaidLaws
import Derived.LaidHandle
import Derived.Stop.Joined
set_option linter.unusedVariables false
set_option linter.unusedSimpArgs false
set_option linter.unusedSectionVars false
namespace Go.Proofs.YtjgeofdgdlmcoaaGreatDoor
open Go Go.RK
open Go.RK.Uni (Ty El)
open Go.RK.Byt (bT)
def grB (i:Int):Bs:=if i=0 then gB 1 0 30 239 else if i=1 then gB 2 0 61 222 else if i=2 then gB 3 0 92 205 else if i=3 then gB 4 0 123 188 else if i=4 then gB 5 0 154 171 else gB 6 0 185 154
theorem t_greetBytes (p:List Pair) (i:Int) (h0:p=[]∧0≤i∧i≤5):Tt (f_greetBytes p i) fun y=>y.1.1=grB i∧y.1.1.length=28:=by
  obtain ⟨rfl,h1,h2⟩:=h0
  have:i=0∨i=1∨i=2∨i=3∨i=4∨i=5:=by omega
  rcases this with rfl | rfl | rfl | rfl | rfl | rfl
  · exact ⟨_,greet0,rfl,rfl⟩
  · exact ⟨_,greet1,rfl,rfl⟩
  · exact ⟨_,greet2,rfl,rfl⟩
  · exact ⟨_,greet3,rfl,rfl⟩
  · exact ⟨_,greet4,rfl,rfl⟩
  · exact ⟨_,greet5,rfl,rfl⟩
def N0 (o:Bs):Prop:=o=[]∨∃ l,o=78 :: l
def G1 (o g:Bs):Prop:=(∃ l,o=78 :: l)∨g <+: o
@[grind =] theorem N0_app {o:Bs} (h:N0 o) (x:Bs):N0 (o++78 :: x)=True:=eq_true (by
  rcases h with rfl | ⟨l,rfl⟩
  · exact .inr ⟨x,rfl⟩
  · exact .inr ⟨l++78 :: x,rfl⟩)
@[grind =] theorem G1_greet {o g:Bs} (h:N0 o):G1 (o++g) g=True:=eq_true (by
  rcases h with rfl | ⟨l,rfl⟩
  · exact .inr (List.prefix_refl _)
  · exact .inl ⟨l++g,rfl⟩)
@[grind =] theorem G1_app {o g:Bs} (h:G1 o g) (x:Bs):G1 (o++x) g=True:=eq_true (by
  rcases h with ⟨l,rfl⟩ | h
  · exact .inl ⟨l++x,rfl⟩
  · exact .inr (h.trans (List.prefix_append _ _)))
@[grind =] theorem pre_app (o x:Bs):(o <+: o++x)=True:=eq_true (List.prefix_append _ _)
@[grind =] theorem pre_self (o:Bs):(o <+: o)=True:=eq_true (List.prefix_refl _)
def SoB (s:Solo):Prop:=ClB s.cl∧SessB s.se∧s.params=[]∧(0≤s.id∧s.id≤5)∧(s.cl.begun=false→N0 s.out)∧(s.cl.begun=true→G1 s.out (grB s.id))∧(s.out.length+16271110100 * s.cl.fr.bytes.length≤65084440400000)∧(0≤s.done∧s.done+s.cl.fr.bytes.length≤4000)
attribute [grind =] SoB
theorem t_soFirst (a0:Solo) (a1:Hello) (h0:a0.params=[]∧0≤a0.id∧a0.id≤5) (h1:a0.cl.begun=false∧N0 a0.out) (h2:a0.out.length≤140000000000000):Tt (f_soFirst a0 a1) fun y=>y.2.1.cl.fr.bytes=a0.cl.fr.bytes∧y.2.1.cl.fr.room=a0.cl.fr.room∧y.2.1.se=a0.se∧y.2.1.params=a0.params∧y.2.1.id=a0.id∧y.2.1.done=a0.done∧(a0.out <+: y.2.1.out)∧y.2.1.out.length≤a0.out.length+28∧(y.2.1.cl.begun=false→N0 y.2.1.out)∧(y.2.1.cl.begun=true→G1 y.2.1.out (grB a0.id)):=by
 unfold f_soFirst
 refine Tt.bif (fun h=>?_) (fun h=>?_)
 exact Tt.ret (by grind)
 refine Tt.bif (fun h=>?_) (fun h=>?_)
 refine Tt.ok (by grind) ?_
 exact Tt.ret (by grind)
 refine Tt.bnd (t_greetBytes _ _ (by grind)) fun y0 hy0=>?_
 refine Tt.ok (by grind) ?_
 refine Tt.bnd (t_clBegin _) fun y1 hy1=>?_
 exact Tt.ret (by grind)
theorem t_soStep (a0:Solo) (h0:SoB a0) (h1:a0.se.engine.count+a0.cl.fr.bytes.length≤1000000):Tt (f_soStep a0) fun y=>SoB y.2.1∧(a0.out <+: y.2.1.out)∧y.2.1.id=a0.id∧y.2.1.se.engine.count+y.2.1.cl.fr.bytes.length≤a0.se.engine.count+a0.cl.fr.bytes.length∧(y.1.1=true→y.2.1.cl.fr.bytes.length < a0.cl.fr.bytes.length):=by
 unfold f_soStep
 refine Tt.bif (fun h=>?_) (fun h=>?_)
 exact Tt.ret (by grind)
 refine Tt.bnd (t_clPeek _ (by grind)) fun y0 hy0=>?_
 refine Tt.bif (fun h=>?_) (fun h=>?_)
 refine Tt.bnd (t_clTake _ (by grind)) fun y1 hy1=>?_
 refine Tt.bnd (t_soFirst _ _ (by grind) (by grind) (by grind)) fun y2 hy2=>?_
 exact Tt.ret (by grind)
 refine Tt.bif (fun h=>?_) (fun h=>?_)
 refine Tt.bnd (t_clTake _ (by grind)) fun y3 hy3=>?_
 refine Tt.bnd (t_seDo _ _ (by grind) (by grind) (by grind)) fun y4 hy4=>?_
 refine Tt.bnd (t_bkBytes _ (by grind) (by grind)) fun y5 hy5=>?_
 refine Tt.ok (by grind) ?_
 refine Tt.ok (by grind) ?_
 exact Tt.ret (by grind)
 exact Tt.ret (by grind)
theorem st_mixBegin_0 (S:Solo) (s:Solo) (first:List (UInt8)) (h0:SoB s) (h1:s.se.engine.count+s.cl.fr.bytes.length≤S.se.engine.count+S.cl.fr.bytes.length∧S.se.engine.count+S.cl.fr.bytes.length≤1000000∧(S.out <+: s.out)∧s.id=S.id):Tt (s_mixBegin_0 s first) fun r=>match r with | .inl (s',first',_)=>((SoB s')∧(s'.se.engine.count+s'.cl.fr.bytes.length≤S.se.engine.count+S.cl.fr.bytes.length∧S.se.engine.count+S.cl.fr.bytes.length≤1000000∧(S.out <+: s'.out)∧s'.id=S.id))∧s'.cl.fr.bytes.length < s.cl.fr.bytes.length | .inr y=>match y with | .inl z=>SoB z.1∧z.1.se.engine.count+z.1.cl.fr.bytes.length≤S.se.engine.count+S.cl.fr.bytes.length∧(S.out <+: z.1.out)∧z.1.id=S.id | .inr z=>SoB z.1∧z.1.se.engine.count+z.1.cl.fr.bytes.length≤S.se.engine.count+S.cl.fr.bytes.length∧(S.out <+: z.1.out)∧z.1.id=S.id:=by
 unfold s_mixBegin_0
 refine Tt.bnd (t_soOut _ (by grind)) fun y6 hy6=>?_
 refine Tt.bnd (t_byHasSuffix _ _ (by grind)) fun y7 hy7=>?_
 refine Tt.bif (fun h=>?_) (fun h=>?_)
 refine Tt.bnd (t_soStep _ (by grind) (by grind)) fun y8 hy8=>?_
 refine Tt.bif (fun h=>?_) (fun h=>?_)
 refine Tt.bif (fun h=>?_) (fun h=>?_)
 exact Tt.ret (by grind)
 exact Tt.ret (by grind)
 exact Tt.ret (by grind)
 exact Tt.ret (by grind)
theorem lt_mixBegin_0 (S:Solo) (s:Solo) (first:List (UInt8)) (h0:SoB s) (h1:s.se.engine.count+s.cl.fr.bytes.length≤S.se.engine.count+S.cl.fr.bytes.length∧S.se.engine.count+S.cl.fr.bytes.length≤1000000∧(S.out <+: s.out)∧s.id=S.id):Tt (α:=((Solo × Unit) ⊕ (Solo × Unit))) (lpF l_mixBegin_0.step (u_mixBegin_0 s first) (s,(first,()))) fun y=>match y with | .inl z=>SoB z.1∧z.1.se.engine.count+z.1.cl.fr.bytes.length≤S.se.engine.count+S.cl.fr.bytes.length∧(S.out <+: z.1.out)∧z.1.id=S.id | .inr z=>SoB z.1∧z.1.se.engine.count+z.1.cl.fr.bytes.length≤S.se.engine.count+S.cl.fr.bytes.length∧(S.out <+: z.1.out)∧z.1.id=S.id:=by
 refine Tt.lp (fun x=>(SoB x.1)∧(x.1.se.engine.count+x.1.cl.fr.bytes.length≤S.se.engine.count+S.cl.fr.bytes.length∧S.se.engine.count+S.cl.fr.bytes.length≤1000000∧(S.out <+: x.1.out)∧x.1.id=S.id)) (fun x=>x.1.cl.fr.bytes.length) (fun x h=>(st_mixBegin_0 S x.1 x.2.1 h.1 h.2).mono fun r hr=>?_) (by exact ⟨h0,h1⟩) (by unfold u_mixBegin_0;grind)
 rcases r with r | r <;> exact hr
theorem t_mixBegin (a0:Solo) (a1:List (UInt8)) (h0:SoB a0) (h1:a0.se.engine.count+a0.cl.fr.bytes.length≤1000000):Tt (f_mixBegin a0 a1) fun y=>SoB y.2.1∧(a0.out <+: y.2.1.out)∧y.2.1.id=a0.id∧y.2.1.se.engine.count+y.2.1.cl.fr.bytes.length≤a0.se.engine.count+a0.cl.fr.bytes.length:=by
 unfold f_mixBegin
 refine Tt.bnd (lt_mixBegin_0 (a0) _ _ (by grind) (by grind)) fun (y0:((Solo × Unit) ⊕ (Solo × Unit))) hy0=>?_
 rcases y0 with y1 | y1
 exact Tt.ret (by grind)
 exact Tt.ret (by grind)
theorem st_mixUpto_0 (S:Solo) (s:Solo) (many:Int) (h0:SoB s) (h1:s.se.engine.count+s.cl.fr.bytes.length≤S.se.engine.count+S.cl.fr.bytes.length∧S.se.engine.count+S.cl.fr.bytes.length≤1000000∧(S.out <+: s.out)∧s.id=S.id):Tt (s_mixUpto_0 s many) fun r=>match r with | .inl (s',many',_)=>((SoB s')∧(s'.se.engine.count+s'.cl.fr.bytes.length≤S.se.engine.count+S.cl.fr.bytes.length∧S.se.engine.count+S.cl.fr.bytes.length≤1000000∧(S.out <+: s'.out)∧s'.id=S.id))∧s'.cl.fr.bytes.length < s.cl.fr.bytes.length | .inr y=>SoB y.1∧y.1.se.engine.count+y.1.cl.fr.bytes.length≤S.se.engine.count+S.cl.fr.bytes.length∧(S.out <+: y.1.out)∧y.1.id=S.id:=by
 unfold s_mixUpto_0
 refine Tt.bif (fun h=>?_) (fun h=>?_)
 refine Tt.bnd (t_soStep _ (by grind) (by grind)) fun y1 hy1=>?_
 refine Tt.bif (fun h=>?_) (fun h=>?_)
 exact Tt.ret (by grind)
 exact Tt.ret (by grind)
 exact Tt.ret (by grind)
theorem lt_mixUpto_0 (S:Solo) (s:Solo) (many:Int) (h0:SoB s) (h1:s.se.engine.count+s.cl.fr.bytes.length≤S.se.engine.count+S.cl.fr.bytes.length∧S.se.engine.count+S.cl.fr.bytes.length≤1000000∧(S.out <+: s.out)∧s.id=S.id):Tt (α:=(Solo × Unit)) (lpF l_mixUpto_0.step (u_mixUpto_0 s many) (s,(many,()))) fun y=>SoB y.1∧y.1.se.engine.count+y.1.cl.fr.bytes.length≤S.se.engine.count+S.cl.fr.bytes.length∧(S.out <+: y.1.out)∧y.1.id=S.id:=by
 refine Tt.lp (fun x=>(SoB x.1)∧(x.1.se.engine.count+x.1.cl.fr.bytes.length≤S.se.engine.count+S.cl.fr.bytes.length∧S.se.engine.count+S.cl.fr.bytes.length≤1000000∧(S.out <+: x.1.out)∧x.1.id=S.id)) (fun x=>x.1.cl.fr.bytes.length) (fun x h=>(st_mixUpto_0 S x.1 x.2.1 h.1 h.2).mono fun r hr=>?_) (by exact ⟨h0,h1⟩) (by unfold u_mixUpto_0;grind)
 rcases r with r | r <;> exact hr
theorem t_mixUpto (a0:Solo) (a1:Int) (h0:SoB a0) (h1:a0.se.engine.count+a0.cl.fr.bytes.length≤1000000):Tt (f_mixUpto a0 a1) fun y=>SoB y.2.1∧(a0.out <+: y.2.1.out)∧y.2.1.id=a0.id∧y.2.1.se.engine.count+y.2.1.cl.fr.bytes.length≤a0.se.engine.count+a0.cl.fr.bytes.length:=by
 unfold f_mixUpto
 refine Tt.bnd (lt_mixUpto_0 (a0) _ _ (by grind) (by grind)) fun (y0:(Solo × Unit)) hy0=>?_
 exact Tt.ret (by grind)
end Go.Proofs.YtjgeofdgdlmcoaaGreatDoor
namespace Go.Proofs.YtjgeofdgdlmcoaaGreatDoor
open Go Go.RK
open Go.RK.Uni (Ty El)
open Go.RK.Byt (bT)
theorem t_soNew (a0:Engine) (a1:List (Pair)) (a2:Int) (h0:a1.length≤1000000):Tt (f_soNew a0 a1 a2) fun y=>y.1.1.cl.fr.bytes=[]∧y.1.1.cl.fr.room=262144∧y.1.1.cl.begun=false∧y.1.1.se.stmts=[]∧y.1.1.se.portals=[]∧y.1.1.se.engine=a0∧y.1.1.params=a1∧y.1.1.id=a2∧y.1.1.out=[]∧y.1.1.done=0:=by
 unfold f_soNew
 try dsimp only [El_pair]
 refine Tt.bnd (t_clPair _ (by grind)) fun (y0:List (Pair)) hy0=>?_
 exact Tt.ret (by grind)
def SoR (s:Solo):Prop:=ClB s.cl∧(StmtsB s.se.stmts∧PortalsB s.se.portals)∧s.params=[]∧(0≤s.id∧s.id≤5)∧(s.cl.begun=false→N0 s.out)∧(s.cl.begun=true→G1 s.out (grB s.id))∧(s.out.length+16271110100 * s.cl.fr.bytes.length≤65084440400000)∧(0≤s.done∧s.done+s.cl.fr.bytes.length≤4000)
attribute [grind =] SoR
theorem bif_bnd {α β:Type} (c:Bool) (a b:Option α) (κ:α→Option β):bnd (bif c then a else b) κ=bif c then bnd a κ else bnd b κ:=by cases c <;> rfl
theorem bnd_bnd {α β γ:Type} (x:Option α) (f:α→Option β) (g:β→Option γ):bnd (bnd x f) g=bnd x fun y=>bnd (f y) g:=by cases x <;> rfl
theorem bnd_ret {α β:Type} (a:α) (κ:α→Option β):bnd (some a) κ=κ a:=rfl
theorem bnd_non {α β:Type} (κ:α→Option β):bnd none κ=none:=rfl
noncomputable def foldC {P:Type} (c:P→MCall→Option P):P→List MCall→Option P
  | p,[]=>some p
  | p,a :: l=>bnd (c p a) fun q=>foldC c q l
theorem foldC_app {P:Type} (c:P→MCall→Option P):∀ (l m:List MCall) (p:P),foldC c p (l++m)=bnd (foldC c p l) fun q=>foldC c q m
  | [],m,p=>rfl
  | a :: l,m,p=>by
    show bnd (c p a) (fun q=>foldC c q (l++m))=bnd (bnd (c p a) fun q=>foldC c q l) _
    rw [bnd_bnd]
    congr
    funext q
    exact foldC_app c l m q
theorem foldC_tt {P : Type} {c : P → MCall → Option P} {J : P → Prop} {R : P → P → Prop} (hc : ∀ p a, J p → -9223372036854775808 ≤ a.index → Tt (c p a) fun q => J q ∧ R p q) (hr : ∀ p, R p p) (ht : ∀ {p q r}, R p q → R q r → R p r) :
    ∀ (l:List MCall) (p:P),J p→(∀ a∈l,-9223372036854775808≤a.index)→Tt (foldC c p l) fun q=>J q∧R p q
  | [],p,h,_=>⟨p,rfl,h,hr p⟩
  | a :: l,p,h,k=>Tt.bnd (hc p a h (k a (List.mem_cons_self ..))) fun q hq=>(foldC_tt hc hr ht l q hq.1 fun b hb=>k b (List.mem_cons_of_mem _ hb)).mono fun r hr'=>⟨hr'.1,ht hq.2 hr'.2⟩
theorem idx_fold {P Y : Type} {step : P × (List MCall × (Int × (Int × Unit))) → Option ((P × (List MCall × (Int × (Int × Unit)))) ⊕ Y)} {c : P → MCall → Option P} {fin : P → Y}
    (hs:∀ p l n i,(0≤i∧i < n∧n=((l:List MCall).length:Int)∧n≤1000)→step (p,(l,(n,(i,()))))=bnd (c p (getU (t:=Tm.call) l i)) fun q=>some (.inl (q,(l,(n,(i+1,()))))))
    (hf:∀ p l n i,¬ i < n→step (p,(l,(n,(i,()))))=some (.inr (fin p))) (l:List MCall) (hl:l.length≤1000):∀ (fuel j:Nat) (p:P),j≤l.length→l.length - j < fuel →
    lpF step fuel (p,(l,((l.length:Int),((j:Int),()))))=bnd (foldC c p (l.drop j)) fun q=>some (fin q):=by
  intro fuel
  induction fuel with
  | zero=>intro j p _ h;exact absurd h (Nat.not_lt_zero _)
  | succ fuel ih =>
    intro j p hj hm
    show bnd (step _) _=_
    by_cases e:j < l.length
    · rw [hs p l _ _ ⟨by omega,by omega,rfl,by omega⟩,bnd_bnd]
      have e1:l.drop j=(getU (t:=Tm.call) l (j:Int):MCall) :: l.drop (j+1):=by
        rw [List.drop_eq_getElem_cons e]
        congr 1
        show _=l.getD (j:Int).toNat _
        rw [Int.toNat_natCast,List.getD_eq_getElem?_getD,List.getElem?_eq_getElem e]
        rfl
      rw [e1]
      show _=bnd (bnd (c p _) _) _
      rw [bnd_bnd]
      congr
      funext q
      exact ih (j+1) q (by omega) (by omega)
    · rw [hf p l _ _ (by omega),bnd_ret]
      have:l.drop j=[]:=List.drop_eq_nil_of_le (by omega)
      rw [this]
      rfl
end Go.Proofs.YtjgeofdgdlmcoaaGreatDoor
namespace Go.Proofs.YtjgeofdgdlmcoaaGreatDoor
open Go Go.RK
open Go.RK.Uni (Ty El)
open Go.RK.Byt (bT)
noncomputable def wE (s:Solo) (e:Engine):Solo:={ s with se:={ s.se with engine:=e } }
noncomputable def zE (s:Solo):Solo:=wE s (Engine.mk [] 0)
noncomputable abbrev qSeR (n:Nat→Nat):Tp:=tIso (tPtr (n 0) 117 (tC (tMapT (n 1) .str Tm.stmt true) (tC (qPs fun j=>n (j+2)) (tC (tRef (n 4) 0) (tC tByte (tC tBool (tC tBool tNil))))))) Session (fun x=>(x.stmts,x.portals,(),x.status,x.skips,x.over,())) (fun d=>⟨d.1,d.2.1,⟨[],0⟩,d.2.2.2.1,d.2.2.2.2.1,d.2.2.2.2.2.1⟩) (fun _=>rfl)
noncomputable abbrev qSoR (n:Nat→Nat):Tp:=tIso (tPtr (n 0) 71 (tC (qCl fun j=>n (j+1)) (tC (qSeR fun j=>n (j+4)) (tC (tRow Tm.pair) (tC tI (tC (tOwn (n 10) Tm.by 5) (tC tI (tC tBool tNil)))))))) Solo (fun x=>(x.cl,x.se,x.params,x.id,x.out,x.done,x.over,())) (fun d=>⟨d.1,d.2.1,d.2.2.1,d.2.2.2.1,d.2.2.2.2.1,d.2.2.2.2.2.1,d.2.2.2.2.2.2.1⟩) (fun _=>rfl)
noncomputable def soN (b:Nat) (n:Nat→Nat) (j:Nat):Nat:=bif Nat.beq j 8 then n 9 else bif Nat.beq j 9 then n 10 else bif Nat.beq j 10 then n (Nat.add b 8) else n (Nat.add b j)
noncomputable abbrev qPl1 (n:Nat→Nat):Tp:=tSli (n 0) 1 1000000000000000000000001 43 true (tC (qSo fun j=>n (j+1)) tNil)
noncomputable abbrev qPl2 (n:Nat→Nat):Tp:=tSli (n 0) 2 1000000000000000000000001 43 true (tC (qSo fun j=>n (j+1)) (tC (qSoR (soN 12 n)) tNil))
noncomputable abbrev qPl3 (n:Nat→Nat):Tp:=tSli (n 0) 3 1000000000000000000000001 43 true (tC (qSo fun j=>n (j+1)) (tC (qSoR (soN 12 n)) (tC (qSoR (soN 21 n)) tNil)))
noncomputable abbrev qPl4 (n:Nat→Nat):Tp:=tSli (n 0) 4 1000000000000000000000001 43 true (tC (qSo fun j=>n (j+1)) (tC (qSoR (soN 12 n)) (tC (qSoR (soN 21 n)) (tC (qSoR (soN 30 n)) tNil))))
noncomputable abbrev qPl5 (n:Nat→Nat):Tp:=tSli (n 0) 5 1000000000000000000000001 43 true (tC (qSo fun j=>n (j+1)) (tC (qSoR (soN 12 n)) (tC (qSoR (soN 21 n)) (tC (qSoR (soN 30 n)) (tC (qSoR (soN 39 n)) tNil)))))
noncomputable abbrev qPl6 (n:Nat→Nat):Tp:=tSli (n 0) 6 1000000000000000000000001 43 true (tC (qSo fun j=>n (j+1)) (tC (qSoR (soN 12 n)) (tC (qSoR (soN 21 n)) (tC (qSoR (soN 30 n)) (tC (qSoR (soN 39 n)) (tC (qSoR (soN 48 n)) tNil))))))
noncomputable abbrev qPl0 (_:Nat→Nat):Tp:=tCst .sl
end Go.Proofs.YtjgeofdgdlmcoaaGreatDoor
namespace Go.Proofs.YtjgeofdgdlmcoaaGreatDoor
open Go Go.RK
open Go.RK.Uni (Ty El)
open Go.RK.Byt (bT)
noncomputable def s_mixFollow0_0 (p:Unit) (t6:List (MCall)) (t7:Int) (t8:Int):Option ((Unit × (List (MCall) × (Int × (Int × Unit)))) ⊕ Unit) :=
 bif (ltI t8 t7) then
  bif (inB t8 (List.length t6)) then
   bif (ltI (getU (t:=Tm.call) t6 t8).client (0:Int)) then
    bif (inR (t8+(1:Int))) then
     some (.inl ((),(t6,(t7,((t8+(1:Int)),())))))
    else none
   else bif (leI (Int.ofNat (0:Nat)) (getU (t:=Tm.call) t6 t8).client) then
    bif (inR (t8+(1:Int))) then
     some (.inl ((),(t6,(t7,((t8+(1:Int)),())))))
    else none
   else bif (leI (1099511627776:Int) (getU (t:=Tm.call) t6 t8).index) then
    bif (inR (t8+(1:Int))) then
     some (.inl ((),(t6,(t7,((t8+(1:Int)),())))))
    else none
   else none
  else none
 else some (.inr ())
noncomputable def l_mixFollow0_0:Lp Tryz.prog:=mkLp (P:=Tryz.prog) [0,6,7,8] [39,23,3,3] 0 [] (tC (tCst .sl) (tC (tRow Tm.call) (tC tI (tC tI tNil)))) [⟨.exit 0,[],[],0,tNil⟩] (fun x=>s_mixFollow0_0 x.1 x.2.1 x.2.2.1 x.2.2.2.1)
noncomputable def u_mixFollow0_0 (p:Unit) (t6:List (MCall)) (t7:Int) (t8:Int):Nat:=Int.toNat (t7 - t8)+1
noncomputable def k_mixFollow0_0:Lk Tryz.prog 14 0:=mkLk hm0 en0 l_mixFollow0_0 0 (fun x=>u_mixFollow0_0 x.1 x.2.1 x.2.2.1 x.2.2.2.1) (natX_ok c_mixUpto (nat0_ok _)) [] (by kernel_rfl) fun x=>by kernel_rfl
noncomputable def f_mixFollow0 (a0:Unit) (a1:List (MCall)):Option (Unit × Unit) :=
 bnd (lpF l_mixFollow0_0.step (u_mixFollow0_0 () a1 (Int.ofNat (List.length a1)) (0:Int)) ((),(a1,((Int.ofNat (List.length a1)),((0:Int),()))))) fun y0 =>
 some ((),())
noncomputable def c_mixFollow0:Go.RK.Fn Tryz.prog 14:=mkFn hm0 en0 (by kernel_rfl) [39,23] [] (tC (qPl0 (nu 0)) (tC (qR .call (nu 0)) tNil)) tNil tNil 0 0 (natX_ok c_mixUpto (nat0_ok _)) [⟨_,k_mixFollow0_0⟩] (by kernel_rfl) (fun x=>f_mixFollow0 x.1 x.2.1) fun x=>by kernel_rfl
noncomputable def s_mixFollow1_0 (p:(Solo × Unit)) (t6:List (MCall)) (t7:Int) (t8:Int):Option (((Solo × Unit) × (List (MCall) × (Int × (Int × Unit)))) ⊕ ((Solo × Unit) × Unit)) :=
 bif (ltI t8 t7) then
  bif (inB t8 (List.length t6)) then
   bif (ltI (getU (t:=Tm.call) t6 t8).client (0:Int)) then
    bif (inR (t8+(1:Int))) then
     some (.inl ((p.1,()),(t6,(t7,((t8+(1:Int)),())))))
    else none
   else bif (leI (Int.ofNat (1:Nat)) (getU (t:=Tm.call) t6 t8).client) then
    bif (inR (t8+(1:Int))) then
     some (.inl ((p.1,()),(t6,(t7,((t8+(1:Int)),())))))
    else none
   else bif (leI (1099511627776:Int) (getU (t:=Tm.call) t6 t8).index) then
    bif (inR (t8+(1:Int))) then
     some (.inl ((p.1,()),(t6,(t7,((t8+(1:Int)),())))))
    else none
   else bif decide ((getU (t:=Tm.call) t6 t8).client=(Int.ofNat (0:Nat))) then
    bif (inR ((getU (t:=Tm.call) t6 t8).index+(1:Int))) then
     bnd (f_mixUpto p.1 ((getU (t:=Tm.call) t6 t8).index+(1:Int))) fun y1 =>
     bif (inR (t8+(1:Int))) then
      some (.inl ((y1.2.1,()),(t6,(t7,((t8+(1:Int)),())))))
     else none
    else none
   else none
  else none
 else some (.inr ((p.1,()),()))
noncomputable def l_mixFollow1_0:Lp Tryz.prog:=mkLp (P:=Tryz.prog) [0,6,7,8] [39,23,3,3] 12 [0,1,2,3,5,6,7,8,9,10] (tC (tSli 0 1 1000000000000000000000001 43 true (tC (qSo (nl [1,2,3,4,5,6,7,8,9,10,11])) tNil)) (tC (tRow Tm.call) (tC tI (tC tI tNil)))) [⟨.exit 0,[0],[39],14,(tC (tSli 0 1 1000000000000000000000001 43 true (tC (qSo (nl [1,2,3,12,5,6,7,8,9,10,13])) tNil)) tNil)⟩] (fun x=>s_mixFollow1_0 x.1 x.2.1 x.2.2.1 x.2.2.2.1)
noncomputable def u_mixFollow1_0 (p:(Solo × Unit)) (t6:List (MCall)) (t7:Int) (t8:Int):Nat:=Int.toNat (t7 - t8)+1
noncomputable def k_mixFollow1_0:Lk Tryz.prog 14 0:=mkLk hm0 en0 l_mixFollow1_0 0 (fun x=>u_mixFollow1_0 x.1 x.2.1 x.2.2.1 x.2.2.2.1) (natX_ok c_mixUpto (nat0_ok _)) [] (by kernel_rfl) fun x=>by kernel_rfl
noncomputable def f_mixFollow1 (a0:(Solo × Unit)) (a1:List (MCall)):Option (Unit × ((Solo × Unit) × Unit)) :=
 bnd (lpF l_mixFollow1_0.step (u_mixFollow1_0 (a0.1,()) a1 (Int.ofNat (List.length a1)) (0:Int)) ((a0.1,()),(a1,((Int.ofNat (List.length a1)),((0:Int),()))))) fun y0 =>
 some ((),((y0.1.1,()),()))
noncomputable def c_mixFollow1:Go.RK.Fn Tryz.prog 14:=mkFn hm0 en0 (by kernel_rfl) [39,23] [] (tC (qPl1 (nu 0)) (tC (qR .call (nu 12)) tNil)) tNil (tC (qPl1 (nl [0,1,2,3,12,5,6,7,8,9,10,13])) tNil) 12 14 (natX_ok c_mixUpto (nat0_ok _)) [⟨_,k_mixFollow1_0⟩] (by kernel_rfl) (fun x=>f_mixFollow1 x.1 x.2.1) fun x=>by kernel_rfl
noncomputable def s_mixFollow2_0 (p:(Solo × (Solo × Unit))) (t6:List (MCall)) (t7:Int) (t8:Int):Option (((Solo × (Solo × Unit)) × (List (MCall) × (Int × (Int × Unit)))) ⊕ ((Solo × (Solo × Unit)) × Unit)) :=
 bif (ltI t8 t7) then
  bif (inB t8 (List.length t6)) then
   bif (ltI (getU (t:=Tm.call) t6 t8).client (0:Int)) then
    bif (inR (t8+(1:Int))) then
     some (.inl ((p.1,((zE p.2.1),())),(t6,(t7,((t8+(1:Int)),())))))
    else none
   else bif (leI (Int.ofNat (2:Nat)) (getU (t:=Tm.call) t6 t8).client) then
    bif (inR (t8+(1:Int))) then
     some (.inl ((p.1,((zE p.2.1),())),(t6,(t7,((t8+(1:Int)),())))))
    else none
   else bif (leI (1099511627776:Int) (getU (t:=Tm.call) t6 t8).index) then
    bif (inR (t8+(1:Int))) then
     some (.inl ((p.1,((zE p.2.1),())),(t6,(t7,((t8+(1:Int)),())))))
    else none
   else bif decide ((getU (t:=Tm.call) t6 t8).client=(Int.ofNat (0:Nat))) then
    bif (inR ((getU (t:=Tm.call) t6 t8).index+(1:Int))) then
     bnd (f_mixUpto p.1 ((getU (t:=Tm.call) t6 t8).index+(1:Int))) fun y2 =>
     bif (inR (t8+(1:Int))) then
      some (.inl ((y2.2.1,((zE p.2.1),())),(t6,(t7,((t8+(1:Int)),())))))
     else none
    else none
   else bif decide ((getU (t:=Tm.call) t6 t8).client=(Int.ofNat ((0:Nat)+(1:Nat)))) then
    bif (inR ((getU (t:=Tm.call) t6 t8).index+(1:Int))) then
     bnd (f_mixUpto (wE p.2.1 p.1.se.engine) ((getU (t:=Tm.call) t6 t8).index+(1:Int))) fun y3 =>
     bif (inR (t8+(1:Int))) then
      some (.inl (((wE p.1 y3.2.1.se.engine),((zE y3.2.1),())),(t6,(t7,((t8+(1:Int)),())))))
     else none
    else none
   else none
  else none
 else some (.inr ((p.1,((zE p.2.1),())),()))
noncomputable def l_mixFollow2_0:Lp Tryz.prog:=mkLp (P:=Tryz.prog) [0,6,7,8] [39,23,3,3] 21 [0,1,2,3,5,6,7,8,9,10,12,13,14,16,17,18,19] (tC (tSli 0 2 1000000000000000000000001 43 true (tC (qSo (nl [1,2,3,4,5,6,7,8,9,10,11])) (tC (qSoR (nl [12,13,14,15,16,17,18,19,9,10,20])) tNil))) (tC (tRow Tm.call) (tC tI (tC tI tNil)))) [⟨.exit 0,[0],[39],25,(tC (tSli 0 2 1000000000000000000000001 43 true (tC (qSo (nl [1,2,3,21,5,6,7,8,9,10,22])) (tC (qSoR (nl [12,13,14,23,16,17,18,19,9,10,24])) tNil))) tNil)⟩] (fun x=>s_mixFollow2_0 x.1 x.2.1 x.2.2.1 x.2.2.2.1)
noncomputable def u_mixFollow2_0 (p:(Solo × (Solo × Unit))) (t6:List (MCall)) (t7:Int) (t8:Int):Nat:=Int.toNat (t7 - t8)+1
noncomputable def k_mixFollow2_0:Lk Tryz.prog 14 0:=mkLk hm0 en0 l_mixFollow2_0 0 (fun x=>u_mixFollow2_0 x.1 x.2.1 x.2.2.1 x.2.2.2.1) (natX_ok c_mixUpto (nat0_ok _)) [] (by kernel_rfl) fun x=>by kernel_rfl
noncomputable def f_mixFollow2 (a0:(Solo × (Solo × Unit))) (a1:List (MCall)):Option (Unit × ((Solo × (Solo × Unit)) × Unit)) :=
 bnd (lpF l_mixFollow2_0.step (u_mixFollow2_0 (a0.1,((zE a0.2.1),())) a1 (Int.ofNat (List.length a1)) (0:Int)) ((a0.1,((zE a0.2.1),())),(a1,((Int.ofNat (List.length a1)),((0:Int),()))))) fun y0 =>
 some ((),((y0.1.1,((zE y0.1.2.1),())),()))
noncomputable def c_mixFollow2:Go.RK.Fn Tryz.prog 14:=mkFn hm0 en0 (by kernel_rfl) [39,23] [] (tC (qPl2 (nu 0)) (tC (qR .call (nu 21)) tNil)) tNil (tC (qPl2 (nl [0,1,2,3,21,5,6,7,8,9,10,22,12,13,14,23,16,17,18,19,24])) tNil) 21 25 (natX_ok c_mixUpto (nat0_ok _)) [⟨_,k_mixFollow2_0⟩] (by kernel_rfl) (fun x=>f_mixFollow2 x.1 x.2.1) fun x=>by kernel_rfl
noncomputable def s_mixFollow3_0 (p:(Solo × (Solo × (Solo × Unit)))) (t6:List (MCall)) (t7:Int) (t8:Int):Option (((Solo × (Solo × (Solo × Unit))) × (List (MCall) × (Int × (Int × Unit)))) ⊕ ((Solo × (Solo × (Solo × Unit))) × Unit)) :=
 bif (ltI t8 t7) then
  bif (inB t8 (List.length t6)) then
   bif (ltI (getU (t:=Tm.call) t6 t8).client (0:Int)) then
    bif (inR (t8+(1:Int))) then
     some (.inl ((p.1,((zE p.2.1),((zE p.2.2.1),()))),(t6,(t7,((t8+(1:Int)),())))))
    else none
   else bif (leI (Int.ofNat (3:Nat)) (getU (t:=Tm.call) t6 t8).client) then
    bif (inR (t8+(1:Int))) then
     some (.inl ((p.1,((zE p.2.1),((zE p.2.2.1),()))),(t6,(t7,((t8+(1:Int)),())))))
    else none
   else bif (leI (1099511627776:Int) (getU (t:=Tm.call) t6 t8).index) then
    bif (inR (t8+(1:Int))) then
     some (.inl ((p.1,((zE p.2.1),((zE p.2.2.1),()))),(t6,(t7,((t8+(1:Int)),())))))
    else none
   else bif decide ((getU (t:=Tm.call) t6 t8).client=(Int.ofNat (0:Nat))) then
    bif (inR ((getU (t:=Tm.call) t6 t8).index+(1:Int))) then
     bnd (f_mixUpto p.1 ((getU (t:=Tm.call) t6 t8).index+(1:Int))) fun y3 =>
     bif (inR (t8+(1:Int))) then
      some (.inl ((y3.2.1,((zE p.2.1),((zE p.2.2.1),()))),(t6,(t7,((t8+(1:Int)),())))))
     else none
    else none
   else bif decide ((getU (t:=Tm.call) t6 t8).client=(Int.ofNat ((0:Nat)+(1:Nat)))) then
    bif (inR ((getU (t:=Tm.call) t6 t8).index+(1:Int))) then
     bnd (f_mixUpto (wE p.2.1 p.1.se.engine) ((getU (t:=Tm.call) t6 t8).index+(1:Int))) fun y4 =>
     bif (inR (t8+(1:Int))) then
      some (.inl (((wE p.1 y4.2.1.se.engine),((zE y4.2.1),((zE p.2.2.1),()))),(t6,(t7,((t8+(1:Int)),())))))
     else none
    else none
   else bif decide ((getU (t:=Tm.call) t6 t8).client=(Int.ofNat (((0:Nat)+(1:Nat))+(1:Nat)))) then
    bif (inR ((getU (t:=Tm.call) t6 t8).index+(1:Int))) then
     bnd (f_mixUpto (wE p.2.2.1 p.1.se.engine) ((getU (t:=Tm.call) t6 t8).index+(1:Int))) fun y5 =>
     bif (inR (t8+(1:Int))) then
      some (.inl (((wE p.1 y5.2.1.se.engine),((zE p.2.1),((zE y5.2.1),()))),(t6,(t7,((t8+(1:Int)),())))))
     else none
    else none
   else none
  else none
 else some (.inr ((p.1,((zE p.2.1),((zE p.2.2.1),()))),()))
noncomputable def l_mixFollow3_0:Lp Tryz.prog:=mkLp (P:=Tryz.prog) [0,6,7,8] [39,23,3,3] 30 [0,1,2,3,5,6,7,8,9,10,12,13,14,16,17,18,19,21,22,23,25,26,27,28] (tC (tSli 0 3 1000000000000000000000001 43 true (tC (qSo (nl [1,2,3,4,5,6,7,8,9,10,11])) (tC (qSoR (nl [12,13,14,15,16,17,18,19,9,10,20])) (tC (qSoR (nl [21,22,23,24,25,26,27,28,9,10,29])) tNil)))) (tC (tRow Tm.call) (tC tI (tC tI tNil)))) [⟨.exit 0,[0],[39],36,(tC (tSli 0 3 1000000000000000000000001 43 true (tC (qSo (nl [1,2,3,30,5,6,7,8,9,10,31])) (tC (qSoR (nl [12,13,14,32,16,17,18,19,9,10,33])) (tC (qSoR (nl [21,22,23,34,25,26,27,28,9,10,35])) tNil)))) tNil)⟩] (fun x=>s_mixFollow3_0 x.1 x.2.1 x.2.2.1 x.2.2.2.1)
noncomputable def u_mixFollow3_0 (p:(Solo × (Solo × (Solo × Unit)))) (t6:List (MCall)) (t7:Int) (t8:Int):Nat:=Int.toNat (t7 - t8)+1
noncomputable def k_mixFollow3_0:Lk Tryz.prog 14 0:=mkLk hm0 en0 l_mixFollow3_0 0 (fun x=>u_mixFollow3_0 x.1 x.2.1 x.2.2.1 x.2.2.2.1) (natX_ok c_mixUpto (nat0_ok _)) [] (by kernel_rfl) fun x=>by kernel_rfl
noncomputable def f_mixFollow3 (a0:(Solo × (Solo × (Solo × Unit)))) (a1:List (MCall)):Option (Unit × ((Solo × (Solo × (Solo × Unit))) × Unit)) :=
 bnd (lpF l_mixFollow3_0.step (u_mixFollow3_0 (a0.1,((zE a0.2.1),((zE a0.2.2.1),()))) a1 (Int.ofNat (List.length a1)) (0:Int)) ((a0.1,((zE a0.2.1),((zE a0.2.2.1),()))),(a1,((Int.ofNat (List.length a1)),((0:Int),()))))) fun y0 =>
 some ((),((y0.1.1,((zE y0.1.2.1),((zE y0.1.2.2.1),()))),()))
noncomputable def c_mixFollow3:Go.RK.Fn Tryz.prog 14:=mkFn hm0 en0 (by kernel_rfl) [39,23] [] (tC (qPl3 (nu 0)) (tC (qR .call (nu 30)) tNil)) tNil (tC (qPl3 (nl [0,1,2,3,30,5,6,7,8,9,10,31,12,13,14,32,16,17,18,19,33,21,22,23,34,25,26,27,28,35])) tNil) 30 36 (natX_ok c_mixUpto (nat0_ok _)) [⟨_,k_mixFollow3_0⟩] (by kernel_rfl) (fun x=>f_mixFollow3 x.1 x.2.1) fun x=>by kernel_rfl
noncomputable def s_mixFollow4_0 (p:(Solo × (Solo × (Solo × (Solo × Unit))))) (t6:List (MCall)) (t7:Int) (t8:Int):Option (((Solo × (Solo × (Solo × (Solo × Unit)))) × (List (MCall) × (Int × (Int × Unit)))) ⊕ ((Solo × (Solo × (Solo × (Solo × Unit)))) × Unit)) :=
 bif (ltI t8 t7) then
  bif (inB t8 (List.length t6)) then
   bif (ltI (getU (t:=Tm.call) t6 t8).client (0:Int)) then
    bif (inR (t8+(1:Int))) then
     some (.inl ((p.1,((zE p.2.1),((zE p.2.2.1),((zE p.2.2.2.1),())))),(t6,(t7,((t8+(1:Int)),())))))
    else none
   else bif (leI (Int.ofNat (4:Nat)) (getU (t:=Tm.call) t6 t8).client) then
    bif (inR (t8+(1:Int))) then
     some (.inl ((p.1,((zE p.2.1),((zE p.2.2.1),((zE p.2.2.2.1),())))),(t6,(t7,((t8+(1:Int)),())))))
    else none
   else bif (leI (1099511627776:Int) (getU (t:=Tm.call) t6 t8).index) then
    bif (inR (t8+(1:Int))) then
     some (.inl ((p.1,((zE p.2.1),((zE p.2.2.1),((zE p.2.2.2.1),())))),(t6,(t7,((t8+(1:Int)),())))))
    else none
   else bif decide ((getU (t:=Tm.call) t6 t8).client=(Int.ofNat (0:Nat))) then
    bif (inR ((getU (t:=Tm.call) t6 t8).index+(1:Int))) then
     bnd (f_mixUpto p.1 ((getU (t:=Tm.call) t6 t8).index+(1:Int))) fun y4 =>
     bif (inR (t8+(1:Int))) then
      some (.inl ((y4.2.1,((zE p.2.1),((zE p.2.2.1),((zE p.2.2.2.1),())))),(t6,(t7,((t8+(1:Int)),())))))
     else none
    else none
   else bif decide ((getU (t:=Tm.call) t6 t8).client=(Int.ofNat ((0:Nat)+(1:Nat)))) then
    bif (inR ((getU (t:=Tm.call) t6 t8).index+(1:Int))) then
     bnd (f_mixUpto (wE p.2.1 p.1.se.engine) ((getU (t:=Tm.call) t6 t8).index+(1:Int))) fun y5 =>
     bif (inR (t8+(1:Int))) then
      some (.inl (((wE p.1 y5.2.1.se.engine),((zE y5.2.1),((zE p.2.2.1),((zE p.2.2.2.1),())))),(t6,(t7,((t8+(1:Int)),())))))
     else none
    else none
   else bif decide ((getU (t:=Tm.call) t6 t8).client=(Int.ofNat (((0:Nat)+(1:Nat))+(1:Nat)))) then
    bif (inR ((getU (t:=Tm.call) t6 t8).index+(1:Int))) then
     bnd (f_mixUpto (wE p.2.2.1 p.1.se.engine) ((getU (t:=Tm.call) t6 t8).index+(1:Int))) fun y6 =>
     bif (inR (t8+(1:Int))) then
      some (.inl (((wE p.1 y6.2.1.se.engine),((zE p.2.1),((zE y6.2.1),((zE p.2.2.2.1),())))),(t6,(t7,((t8+(1:Int)),())))))
     else none
    else none
   else bif decide ((getU (t:=Tm.call) t6 t8).client=(Int.ofNat ((((0:Nat)+(1:Nat))+(1:Nat))+(1:Nat)))) then
    bif (inR ((getU (t:=Tm.call) t6 t8).index+(1:Int))) then
     bnd (f_mixUpto (wE p.2.2.2.1 p.1.se.engine) ((getU (t:=Tm.call) t6 t8).index+(1:Int))) fun y7 =>
     bif (inR (t8+(1:Int))) then
      some (.inl (((wE p.1 y7.2.1.se.engine),((zE p.2.1),((zE p.2.2.1),((zE y7.2.1),())))),(t6,(t7,((t8+(1:Int)),())))))
     else none
    else none
   else none
  else none
 else some (.inr ((p.1,((zE p.2.1),((zE p.2.2.1),((zE p.2.2.2.1),())))),()))
noncomputable def l_mixFollow4_0:Lp Tryz.prog:=mkLp (P:=Tryz.prog) [0,6,7,8] [39,23,3,3] 39 [0,1,2,3,5,6,7,8,9,10,12,13,14,16,17,18,19,21,22,23,25,26,27,28,30,31,32,34,35,36,37] (tC (tSli 0 4 1000000000000000000000001 43 true (tC (qSo (nl [1,2,3,4,5,6,7,8,9,10,11])) (tC (qSoR (nl [12,13,14,15,16,17,18,19,9,10,20])) (tC (qSoR (nl [21,22,23,24,25,26,27,28,9,10,29])) (tC (qSoR (nl [30,31,32,33,34,35,36,37,9,10,38])) tNil))))) (tC (tRow Tm.call) (tC tI (tC tI tNil)))) [⟨.exit 0,[0],[39],47,(tC (tSli 0 4 1000000000000000000000001 43 true (tC (qSo (nl [1,2,3,39,5,6,7,8,9,10,40])) (tC (qSoR (nl [12,13,14,41,16,17,18,19,9,10,42])) (tC (qSoR (nl [21,22,23,43,25,26,27,28,9,10,44])) (tC (qSoR (nl [30,31,32,45,34,35,36,37,9,10,46])) tNil))))) tNil)⟩] (fun x=>s_mixFollow4_0 x.1 x.2.1 x.2.2.1 x.2.2.2.1)
noncomputable def u_mixFollow4_0 (p:(Solo × (Solo × (Solo × (Solo × Unit))))) (t6:List (MCall)) (t7:Int) (t8:Int):Nat:=Int.toNat (t7 - t8)+1
noncomputable def k_mixFollow4_0:Lk Tryz.prog 14 0:=mkLk hm0 en0 l_mixFollow4_0 0 (fun x=>u_mixFollow4_0 x.1 x.2.1 x.2.2.1 x.2.2.2.1) (natX_ok c_mixUpto (nat0_ok _)) [] (by kernel_rfl) fun x=>by kernel_rfl
noncomputable def f_mixFollow4 (a0:(Solo × (Solo × (Solo × (Solo × Unit))))) (a1:List (MCall)):Option (Unit × ((Solo × (Solo × (Solo × (Solo × Unit)))) × Unit)) :=
 bnd (lpF l_mixFollow4_0.step (u_mixFollow4_0 (a0.1,((zE a0.2.1),((zE a0.2.2.1),((zE a0.2.2.2.1),())))) a1 (Int.ofNat (List.length a1)) (0:Int)) ((a0.1,((zE a0.2.1),((zE a0.2.2.1),((zE a0.2.2.2.1),())))),(a1,((Int.ofNat (List.length a1)),((0:Int),()))))) fun y0 =>
 some ((),((y0.1.1,((zE y0.1.2.1),((zE y0.1.2.2.1),((zE y0.1.2.2.2.1),())))),()))
noncomputable def c_mixFollow4:Go.RK.Fn Tryz.prog 14:=mkFn hm0 en0 (by kernel_rfl) [39,23] [] (tC (qPl4 (nu 0)) (tC (qR .call (nu 39)) tNil)) tNil (tC (qPl4 (nl [0,1,2,3,39,5,6,7,8,9,10,40,12,13,14,41,16,17,18,19,42,21,22,23,43,25,26,27,28,44,30,31,32,45,34,35,36,37,46])) tNil) 39 47 (natX_ok c_mixUpto (nat0_ok _)) [⟨_,k_mixFollow4_0⟩] (by kernel_rfl) (fun x=>f_mixFollow4 x.1 x.2.1) fun x=>by kernel_rfl
noncomputable def s_mixFollow5_0 (p:(Solo × (Solo × (Solo × (Solo × (Solo × Unit)))))) (t6:List (MCall)) (t7:Int) (t8:Int):Option (((Solo × (Solo × (Solo × (Solo × (Solo × Unit))))) × (List (MCall) × (Int × (Int × Unit)))) ⊕ ((Solo × (Solo × (Solo × (Solo × (Solo × Unit))))) × Unit)) :=
 bif (ltI t8 t7) then
  bif (inB t8 (List.length t6)) then
   bif (ltI (getU (t:=Tm.call) t6 t8).client (0:Int)) then
    bif (inR (t8+(1:Int))) then
     some (.inl ((p.1,((zE p.2.1),((zE p.2.2.1),((zE p.2.2.2.1),((zE p.2.2.2.2.1),()))))),(t6,(t7,((t8+(1:Int)),())))))
    else none
   else bif (leI (Int.ofNat (5:Nat)) (getU (t:=Tm.call) t6 t8).client) then
    bif (inR (t8+(1:Int))) then
     some (.inl ((p.1,((zE p.2.1),((zE p.2.2.1),((zE p.2.2.2.1),((zE p.2.2.2.2.1),()))))),(t6,(t7,((t8+(1:Int)),())))))
    else none
   else bif (leI (1099511627776:Int) (getU (t:=Tm.call) t6 t8).index) then
    bif (inR (t8+(1:Int))) then
     some (.inl ((p.1,((zE p.2.1),((zE p.2.2.1),((zE p.2.2.2.1),((zE p.2.2.2.2.1),()))))),(t6,(t7,((t8+(1:Int)),())))))
    else none
   else bif decide ((getU (t:=Tm.call) t6 t8).client=(Int.ofNat (0:Nat))) then
    bif (inR ((getU (t:=Tm.call) t6 t8).index+(1:Int))) then
     bnd (f_mixUpto p.1 ((getU (t:=Tm.call) t6 t8).index+(1:Int))) fun y5 =>
     bif (inR (t8+(1:Int))) then
      some (.inl ((y5.2.1,((zE p.2.1),((zE p.2.2.1),((zE p.2.2.2.1),((zE p.2.2.2.2.1),()))))),(t6,(t7,((t8+(1:Int)),())))))
     else none
    else none
   else bif decide ((getU (t:=Tm.call) t6 t8).client=(Int.ofNat ((0:Nat)+(1:Nat)))) then
    bif (inR ((getU (t:=Tm.call) t6 t8).index+(1:Int))) then
     bnd (f_mixUpto (wE p.2.1 p.1.se.engine) ((getU (t:=Tm.call) t6 t8).index+(1:Int))) fun y6 =>
     bif (inR (t8+(1:Int))) then
      some (.inl (((wE p.1 y6.2.1.se.engine),((zE y6.2.1),((zE p.2.2.1),((zE p.2.2.2.1),((zE p.2.2.2.2.1),()))))),(t6,(t7,((t8+(1:Int)),())))))
     else none
    else none
   else bif decide ((getU (t:=Tm.call) t6 t8).client=(Int.ofNat (((0:Nat)+(1:Nat))+(1:Nat)))) then
    bif (inR ((getU (t:=Tm.call) t6 t8).index+(1:Int))) then
     bnd (f_mixUpto (wE p.2.2.1 p.1.se.engine) ((getU (t:=Tm.call) t6 t8).index+(1:Int))) fun y7 =>
     bif (inR (t8+(1:Int))) then
      some (.inl (((wE p.1 y7.2.1.se.engine),((zE p.2.1),((zE y7.2.1),((zE p.2.2.2.1),((zE p.2.2.2.2.1),()))))),(t6,(t7,((t8+(1:Int)),())))))
     else none
    else none
   else bif decide ((getU (t:=Tm.call) t6 t8).client=(Int.ofNat ((((0:Nat)+(1:Nat))+(1:Nat))+(1:Nat)))) then
    bif (inR ((getU (t:=Tm.call) t6 t8).index+(1:Int))) then
     bnd (f_mixUpto (wE p.2.2.2.1 p.1.se.engine) ((getU (t:=Tm.call) t6 t8).index+(1:Int))) fun y8 =>
     bif (inR (t8+(1:Int))) then
      some (.inl (((wE p.1 y8.2.1.se.engine),((zE p.2.1),((zE p.2.2.1),((zE y8.2.1),((zE p.2.2.2.2.1),()))))),(t6,(t7,((t8+(1:Int)),())))))
     else none
    else none
   else bif decide ((getU (t:=Tm.call) t6 t8).client=(Int.ofNat (((((0:Nat)+(1:Nat))+(1:Nat))+(1:Nat))+(1:Nat)))) then
    bif (inR ((getU (t:=Tm.call) t6 t8).index+(1:Int))) then
     bnd (f_mixUpto (wE p.2.2.2.2.1 p.1.se.engine) ((getU (t:=Tm.call) t6 t8).index+(1:Int))) fun y9 =>
     bif (inR (t8+(1:Int))) then
      some (.inl (((wE p.1 y9.2.1.se.engine),((zE p.2.1),((zE p.2.2.1),((zE p.2.2.2.1),((zE y9.2.1),()))))),(t6,(t7,((t8+(1:Int)),())))))
     else none
    else none
   else none
  else none
 else some (.inr ((p.1,((zE p.2.1),((zE p.2.2.1),((zE p.2.2.2.1),((zE p.2.2.2.2.1),()))))),()))
noncomputable def l_mixFollow5_0:Lp Tryz.prog:=mkLp (P:=Tryz.prog) [0,6,7,8] [39,23,3,3] 48 [0,1,2,3,5,6,7,8,9,10,12,13,14,16,17,18,19,21,22,23,25,26,27,28,30,31,32,34,35,36,37,39,40,41,43,44,45,46] (tC (tSli 0 5 1000000000000000000000001 43 true (tC (qSo (nl [1,2,3,4,5,6,7,8,9,10,11])) (tC (qSoR (nl [12,13,14,15,16,17,18,19,9,10,20])) (tC (qSoR (nl [21,22,23,24,25,26,27,28,9,10,29])) (tC (qSoR (nl [30,31,32,33,34,35,36,37,9,10,38])) (tC (qSoR (nl [39,40,41,42,43,44,45,46,9,10,47])) tNil)))))) (tC (tRow Tm.call) (tC tI (tC tI tNil)))) [⟨.exit 0,[0],[39],58,(tC (tSli 0 5 1000000000000000000000001 43 true (tC (qSo (nl [1,2,3,48,5,6,7,8,9,10,49])) (tC (qSoR (nl [12,13,14,50,16,17,18,19,9,10,51])) (tC (qSoR (nl [21,22,23,52,25,26,27,28,9,10,53])) (tC (qSoR (nl [30,31,32,54,34,35,36,37,9,10,55])) (tC (qSoR (nl [39,40,41,56,43,44,45,46,9,10,57])) tNil)))))) tNil)⟩] (fun x=>s_mixFollow5_0 x.1 x.2.1 x.2.2.1 x.2.2.2.1)
noncomputable def u_mixFollow5_0 (p:(Solo × (Solo × (Solo × (Solo × (Solo × Unit)))))) (t6:List (MCall)) (t7:Int) (t8:Int):Nat:=Int.toNat (t7 - t8)+1
noncomputable def k_mixFollow5_0:Lk Tryz.prog 14 0:=mkLk hm0 en0 l_mixFollow5_0 0 (fun x=>u_mixFollow5_0 x.1 x.2.1 x.2.2.1 x.2.2.2.1) (natX_ok c_mixUpto (nat0_ok _)) [] (by kernel_rfl) fun x=>by kernel_rfl
noncomputable def f_mixFollow5 (a0:(Solo × (Solo × (Solo × (Solo × (Solo × Unit)))))) (a1:List (MCall)):Option (Unit × ((Solo × (Solo × (Solo × (Solo × (Solo × Unit))))) × Unit)) :=
 bnd (lpF l_mixFollow5_0.step (u_mixFollow5_0 (a0.1,((zE a0.2.1),((zE a0.2.2.1),((zE a0.2.2.2.1),((zE a0.2.2.2.2.1),()))))) a1 (Int.ofNat (List.length a1)) (0:Int)) ((a0.1,((zE a0.2.1),((zE a0.2.2.1),((zE a0.2.2.2.1),((zE a0.2.2.2.2.1),()))))),(a1,((Int.ofNat (List.length a1)),((0:Int),()))))) fun y0 =>
 some ((),((y0.1.1,((zE y0.1.2.1),((zE y0.1.2.2.1),((zE y0.1.2.2.2.1),((zE y0.1.2.2.2.2.1),()))))),()))
noncomputable def c_mixFollow5:Go.RK.Fn Tryz.prog 14:=mkFn hm0 en0 (by kernel_rfl) [39,23] [] (tC (qPl5 (nu 0)) (tC (qR .call (nu 48)) tNil)) tNil (tC (qPl5 (nl [0,1,2,3,48,5,6,7,8,9,10,49,12,13,14,50,16,17,18,19,51,21,22,23,52,25,26,27,28,53,30,31,32,54,34,35,36,37,55,39,40,41,56,43,44,45,46,57])) tNil) 48 58 (natX_ok c_mixUpto (nat0_ok _)) [⟨_,k_mixFollow5_0⟩] (by kernel_rfl) (fun x=>f_mixFollow5 x.1 x.2.1) fun x=>by kernel_rfl
noncomputable def s_mixFollow6_0 (p:(Solo × (Solo × (Solo × (Solo × (Solo × (Solo × Unit))))))) (t6:List (MCall)) (t7:Int) (t8:Int):Option (((Solo × (Solo × (Solo × (Solo × (Solo × (Solo × Unit)))))) × (List (MCall) × (Int × (Int × Unit)))) ⊕ ((Solo × (Solo × (Solo × (Solo × (Solo × (Solo × Unit)))))) × Unit)) :=
 bif (ltI t8 t7) then
  bif (inB t8 (List.length t6)) then
   bif (ltI (getU (t:=Tm.call) t6 t8).client (0:Int)) then
    bif (inR (t8+(1:Int))) then
     some (.inl ((p.1,((zE p.2.1),((zE p.2.2.1),((zE p.2.2.2.1),((zE p.2.2.2.2.1),((zE p.2.2.2.2.2.1),())))))),(t6,(t7,((t8+(1:Int)),())))))
    else none
   else bif (leI (Int.ofNat (6:Nat)) (getU (t:=Tm.call) t6 t8).client) then
    bif (inR (t8+(1:Int))) then
     some (.inl ((p.1,((zE p.2.1),((zE p.2.2.1),((zE p.2.2.2.1),((zE p.2.2.2.2.1),((zE p.2.2.2.2.2.1),())))))),(t6,(t7,((t8+(1:Int)),())))))
    else none
   else bif (leI (1099511627776:Int) (getU (t:=Tm.call) t6 t8).index) then
    bif (inR (t8+(1:Int))) then
     some (.inl ((p.1,((zE p.2.1),((zE p.2.2.1),((zE p.2.2.2.1),((zE p.2.2.2.2.1),((zE p.2.2.2.2.2.1),())))))),(t6,(t7,((t8+(1:Int)),())))))
    else none
   else bif decide ((getU (t:=Tm.call) t6 t8).client=(Int.ofNat (0:Nat))) then
    bif (inR ((getU (t:=Tm.call) t6 t8).index+(1:Int))) then
     bnd (f_mixUpto p.1 ((getU (t:=Tm.call) t6 t8).index+(1:Int))) fun y6 =>
     bif (inR (t8+(1:Int))) then
      some (.inl ((y6.2.1,((zE p.2.1),((zE p.2.2.1),((zE p.2.2.2.1),((zE p.2.2.2.2.1),((zE p.2.2.2.2.2.1),())))))),(t6,(t7,((t8+(1:Int)),())))))
     else none
    else none
   else bif decide ((getU (t:=Tm.call) t6 t8).client=(Int.ofNat ((0:Nat)+(1:Nat)))) then
    bif (inR ((getU (t:=Tm.call) t6 t8).index+(1:Int))) then
     bnd (f_mixUpto (wE p.2.1 p.1.se.engine) ((getU (t:=Tm.call) t6 t8).index+(1:Int))) fun y7 =>
     bif (inR (t8+(1:Int))) then
      some (.inl (((wE p.1 y7.2.1.se.engine),((zE y7.2.1),((zE p.2.2.1),((zE p.2.2.2.1),((zE p.2.2.2.2.1),((zE p.2.2.2.2.2.1),())))))),(t6,(t7,((t8+(1:Int)),())))))
     else none
    else none
   else bif decide ((getU (t:=Tm.call) t6 t8).client=(Int.ofNat (((0:Nat)+(1:Nat))+(1:Nat)))) then
    bif (inR ((getU (t:=Tm.call) t6 t8).index+(1:Int))) then
     bnd (f_mixUpto (wE p.2.2.1 p.1.se.engine) ((getU (t:=Tm.call) t6 t8).index+(1:Int))) fun y8 =>
     bif (inR (t8+(1:Int))) then
      some (.inl (((wE p.1 y8.2.1.se.engine),((zE p.2.1),((zE y8.2.1),((zE p.2.2.2.1),((zE p.2.2.2.2.1),((zE p.2.2.2.2.2.1),())))))),(t6,(t7,((t8+(1:Int)),())))))
     else none
    else none
   else bif decide ((getU (t:=Tm.call) t6 t8).client=(Int.ofNat ((((0:Nat)+(1:Nat))+(1:Nat))+(1:Nat)))) then
    bif (inR ((getU (t:=Tm.call) t6 t8).index+(1:Int))) then
     bnd (f_mixUpto (wE p.2.2.2.1 p.1.se.engine) ((getU (t:=Tm.call) t6 t8).index+(1:Int))) fun y9 =>
     bif (inR (t8+(1:Int))) then
      some (.inl (((wE p.1 y9.2.1.se.engine),((zE p.2.1),((zE p.2.2.1),((zE y9.2.1),((zE p.2.2.2.2.1),((zE p.2.2.2.2.2.1),())))))),(t6,(t7,((t8+(1:Int)),())))))
     else none
    else none
   else bif decide ((getU (t:=Tm.call) t6 t8).client=(Int.ofNat (((((0:Nat)+(1:Nat))+(1:Nat))+(1:Nat))+(1:Nat)))) then
    bif (inR ((getU (t:=Tm.call) t6 t8).index+(1:Int))) then
     bnd (f_mixUpto (wE p.2.2.2.2.1 p.1.se.engine) ((getU (t:=Tm.call) t6 t8).index+(1:Int))) fun y10 =>
     bif (inR (t8+(1:Int))) then
      some (.inl (((wE p.1 y10.2.1.se.engine),((zE p.2.1),((zE p.2.2.1),((zE p.2.2.2.1),((zE y10.2.1),((zE p.2.2.2.2.2.1),())))))),(t6,(t7,((t8+(1:Int)),())))))
     else none
    else none
   else bif decide ((getU (t:=Tm.call) t6 t8).client=(Int.ofNat ((((((0:Nat)+(1:Nat))+(1:Nat))+(1:Nat))+(1:Nat))+(1:Nat)))) then
    bif (inR ((getU (t:=Tm.call) t6 t8).index+(1:Int))) then
     bnd (f_mixUpto (wE p.2.2.2.2.2.1 p.1.se.engine) ((getU (t:=Tm.call) t6 t8).index+(1:Int))) fun y11 =>
     bif (inR (t8+(1:Int))) then
      some (.inl (((wE p.1 y11.2.1.se.engine),((zE p.2.1),((zE p.2.2.1),((zE p.2.2.2.1),((zE p.2.2.2.2.1),((zE y11.2.1),())))))),(t6,(t7,((t8+(1:Int)),())))))
     else none
    else none
   else none
  else none
 else some (.inr ((p.1,((zE p.2.1),((zE p.2.2.1),((zE p.2.2.2.1),((zE p.2.2.2.2.1),((zE p.2.2.2.2.2.1),())))))),()))
noncomputable def l_mixFollow6_0:Lp Tryz.prog:=mkLp (P:=Tryz.prog) [0,6,7,8] [39,23,3,3] 57 [0,1,2,3,5,6,7,8,9,10,12,13,14,16,17,18,19,21,22,23,25,26,27,28,30,31,32,34,35,36,37,39,40,41,43,44,45,46,48,49,50,52,53,54,55] (tC (tSli 0 6 1000000000000000000000001 43 true (tC (qSo (nl [1,2,3,4,5,6,7,8,9,10,11])) (tC (qSoR (nl [12,13,14,15,16,17,18,19,9,10,20])) (tC (qSoR (nl [21,22,23,24,25,26,27,28,9,10,29])) (tC (qSoR (nl [30,31,32,33,34,35,36,37,9,10,38])) (tC (qSoR (nl [39,40,41,42,43,44,45,46,9,10,47])) (tC (qSoR (nl [48,49,50,51,52,53,54,55,9,10,56])) tNil))))))) (tC (tRow Tm.call) (tC tI (tC tI tNil)))) [⟨.exit 0,[0],[39],69,(tC (tSli 0 6 1000000000000000000000001 43 true (tC (qSo (nl [1,2,3,57,5,6,7,8,9,10,58])) (tC (qSoR (nl [12,13,14,59,16,17,18,19,9,10,60])) (tC (qSoR (nl [21,22,23,61,25,26,27,28,9,10,62])) (tC (qSoR (nl [30,31,32,63,34,35,36,37,9,10,64])) (tC (qSoR (nl [39,40,41,65,43,44,45,46,9,10,66])) (tC (qSoR (nl [48,49,50,67,52,53,54,55,9,10,68])) tNil))))))) tNil)⟩] (fun x=>s_mixFollow6_0 x.1 x.2.1 x.2.2.1 x.2.2.2.1)
noncomputable def u_mixFollow6_0 (p:(Solo × (Solo × (Solo × (Solo × (Solo × (Solo × Unit))))))) (t6:List (MCall)) (t7:Int) (t8:Int):Nat:=Int.toNat (t7 - t8)+1
noncomputable def k_mixFollow6_0:Lk Tryz.prog 14 0:=mkLk hm0 en0 l_mixFollow6_0 0 (fun x=>u_mixFollow6_0 x.1 x.2.1 x.2.2.1 x.2.2.2.1) (natX_ok c_mixUpto (nat0_ok _)) [] (by kernel_rfl) fun x=>by kernel_rfl
noncomputable def f_mixFollow6 (a0:(Solo × (Solo × (Solo × (Solo × (Solo × (Solo × Unit))))))) (a1:List (MCall)):Option (Unit × ((Solo × (Solo × (Solo × (Solo × (Solo × (Solo × Unit)))))) × Unit)) :=
 bnd (lpF l_mixFollow6_0.step (u_mixFollow6_0 (a0.1,((zE a0.2.1),((zE a0.2.2.1),((zE a0.2.2.2.1),((zE a0.2.2.2.2.1),((zE a0.2.2.2.2.2.1),())))))) a1 (Int.ofNat (List.length a1)) (0:Int)) ((a0.1,((zE a0.2.1),((zE a0.2.2.1),((zE a0.2.2.2.1),((zE a0.2.2.2.2.1),((zE a0.2.2.2.2.2.1),())))))),(a1,((Int.ofNat (List.length a1)),((0:Int),()))))) fun y0 =>
 some ((),((y0.1.1,((zE y0.1.2.1),((zE y0.1.2.2.1),((zE y0.1.2.2.2.1),((zE y0.1.2.2.2.2.1),((zE y0.1.2.2.2.2.2.1),())))))),()))
noncomputable def c_mixFollow6:Go.RK.Fn Tryz.prog 14:=mkFn hm0 en0 (by kernel_rfl) [39,23] [] (tC (qPl6 (nu 0)) (tC (qR .call (nu 57)) tNil)) tNil (tC (qPl6 (nl [0,1,2,3,57,5,6,7,8,9,10,58,12,13,14,59,16,17,18,19,60,21,22,23,61,25,26,27,28,62,30,31,32,63,34,35,36,37,64,39,40,41,65,43,44,45,46,66,48,49,50,67,52,53,54,55,68])) tNil) 57 69 (natX_ok c_mixUpto (nat0_ok _)) [⟨_,k_mixFollow6_0⟩] (by kernel_rfl) (fun x=>f_mixFollow6 x.1 x.2.1) fun x=>by kernel_rfl
end Go.Proofs.YtjgeofdgdlmcoaaGreatDoor
namespace Go.Proofs.YtjgeofdgdlmcoaaGreatDoor
open Go Go.RK
open Go.RK.Uni (Ty El)
open Go.RK.Byt (bT)
noncomputable def gSt {α:Type} (e:Engine) (i:Int) (b:Bs) (κ:Solo→Option α):Option α:=bnd (f_soNew e [] i) fun y=>bnd (f_soFeed y.1.1 b) fun z=>bnd (f_greetBytes [] i) fun g=>bnd (f_mixBegin z.2.1 g.1.1) fun w=>κ w.2.1
noncomputable abbrev a_out:Tp:=(tC (qR .pair (nu 0)) (tC (qR .bs (nu 0)) (tC (qR .call (nu 0)) (tC (qR .int (nu 0)) tNil))))
noncomputable def nat_out (R:Type):NatK R:=natX c_mixFollow0 (natX c_mixFollow1 (natX c_mixFollow2 (natX c_mixFollow3 (natX c_mixFollow4 (natX c_mixFollow5 (natX c_mixFollow6 (natX c_soOut (natX c_mixUpto (natX c_enNew (natX c_soNew (natX c_soFeed (natX c_mixBegin (natX c_greetBytes (nat0))))))))))))))
theorem nat_out_ok {R:Type}:NOkK Tryz.prog (nat_out R):=(natX_ok c_mixFollow0 (natX_ok c_mixFollow1 (natX_ok c_mixFollow2 (natX_ok c_mixFollow3 (natX_ok c_mixFollow4 (natX_ok c_mixFollow5 (natX_ok c_mixFollow6 (natX_ok c_soOut (natX_ok c_mixUpto (natX_ok c_enNew (natX_ok c_soNew (natX_ok c_soFeed (natX_ok c_mixBegin (natX_ok c_greetBytes (nat0_ok _)))))))))))))))
noncomputable def gOut0 (log:List MCall):Option ((List Bs × Unit) × Unit) :=
 bnd (f_mixFollow0 () log) fun y=>some (([],()),())
theorem r_out0 (log:List MCall):runB Tryz.prog (nat_out _) (blkL (P:=Tryz.prog) (k:=6) []) 100 6 (encV a_out.s (a_out.op ([],([],(log,([],())))))) (hpS 0 (blks a_out.s (a_out.op ([],([],(log,([],()))))))) (outY Tryz.prog [22] 0 0 (tC (qR .bs (nu 0)) tNil).s tNil.s fun q=>((tC (qR .bs (nu 0)) tNil).cl q.1,tNil.cl q.2))=gOut0 log:=by kernel_rfl
noncomputable def gOut1 (b0:Bs) (log:List MCall):Option ((List Bs × Unit) × Unit) :=
 gSt (Engine.mk [] 0) (0:Int) b0 fun s0=>bnd (f_mixFollow1 (s0,()) log) fun y=>bnd (f_soOut y.2.1.1) fun o0=>some (([o0.1.1],()),())
theorem r_out1 (b0:Bs) (log:List MCall):runB Tryz.prog (nat_out _) (blkL (P:=Tryz.prog) (k:=6) []) 100 6 (encV a_out.s (a_out.op ([],([b0],(log,([],())))))) (hpS 0 (blks a_out.s (a_out.op ([],([b0],(log,([],()))))))) (outY Tryz.prog [22] 0 0 (tC (qR .bs (nu 0)) tNil).s tNil.s fun q=>((tC (qR .bs (nu 0)) tNil).cl q.1,tNil.cl q.2))=gOut1 b0 log:=by kernel_rfl
noncomputable def gOut2 (b0:Bs) (b1:Bs) (log:List MCall):Option ((List Bs × Unit) × Unit) :=
 gSt (Engine.mk [] 0) (0:Int) b0 fun s0=>gSt s0.se.engine (1:Int) b1 fun s1=>bnd (f_mixFollow2 (((wE s0 s1.se.engine),((zE s1),()))) log) fun y=>bnd (f_soOut y.2.1.1) fun o0=>bnd (f_soOut (wE y.2.1.2.1 o0.2.1.se.engine)) fun o1=>some (([o0.1.1,o1.1.1],()),())
theorem r_out2 (b0:Bs) (b1:Bs) (log:List MCall):runB Tryz.prog (nat_out _) (blkL (P:=Tryz.prog) (k:=6) []) 100 6 (encV a_out.s (a_out.op ([],([b0,b1],(log,([],())))))) (hpS 0 (blks a_out.s (a_out.op ([],([b0,b1],(log,([],()))))))) (outY Tryz.prog [22] 0 0 (tC (qR .bs (nu 0)) tNil).s tNil.s fun q=>((tC (qR .bs (nu 0)) tNil).cl q.1,tNil.cl q.2))=gOut2 b0 b1 log:=by kernel_rfl
noncomputable def gOut3 (b0:Bs) (b1:Bs) (b2:Bs) (log:List MCall):Option ((List Bs × Unit) × Unit) :=
 gSt (Engine.mk [] 0) (0:Int) b0 fun s0=>gSt s0.se.engine (1:Int) b1 fun s1=>gSt s1.se.engine (2:Int) b2 fun s2=>bnd (f_mixFollow3 (((wE s0 s2.se.engine),((zE s1),((zE s2),())))) log) fun y=>bnd (f_soOut y.2.1.1) fun o0=>bnd (f_soOut (wE y.2.1.2.1 o0.2.1.se.engine)) fun o1=>bnd (f_soOut (wE y.2.1.2.2.1 o1.2.1.se.engine)) fun o2=>some (([o0.1.1,o1.1.1,o2.1.1],()),())
theorem r_out3 (b0:Bs) (b1:Bs) (b2:Bs) (log:List MCall):runB Tryz.prog (nat_out _) (blkL (P:=Tryz.prog) (k:=6) []) 100 6 (encV a_out.s (a_out.op ([],([b0,b1,b2],(log,([],())))))) (hpS 0 (blks a_out.s (a_out.op ([],([b0,b1,b2],(log,([],()))))))) (outY Tryz.prog [22] 0 0 (tC (qR .bs (nu 0)) tNil).s tNil.s fun q=>((tC (qR .bs (nu 0)) tNil).cl q.1,tNil.cl q.2))=gOut3 b0 b1 b2 log:=by kernel_rfl
noncomputable def gOut4 (b0:Bs) (b1:Bs) (b2:Bs) (b3:Bs) (log:List MCall):Option ((List Bs × Unit) × Unit) :=
 gSt (Engine.mk [] 0) (0:Int) b0 fun s0=>gSt s0.se.engine (1:Int) b1 fun s1=>gSt s1.se.engine (2:Int) b2 fun s2=>gSt s2.se.engine (3:Int) b3 fun s3=>bnd (f_mixFollow4 (((wE s0 s3.se.engine),((zE s1),((zE s2),((zE s3),()))))) log) fun y=>bnd (f_soOut y.2.1.1) fun o0=>bnd (f_soOut (wE y.2.1.2.1 o0.2.1.se.engine)) fun o1=>bnd (f_soOut (wE y.2.1.2.2.1 o1.2.1.se.engine)) fun o2=>bnd (f_soOut (wE y.2.1.2.2.2.1 o2.2.1.se.engine)) fun o3=>some (([o0.1.1,o1.1.1,o2.1.1,o3.1.1],()),())
theorem r_out4 (b0:Bs) (b1:Bs) (b2:Bs) (b3:Bs) (log:List MCall):runB Tryz.prog (nat_out _) (blkL (P:=Tryz.prog) (k:=6) []) 100 6 (encV a_out.s (a_out.op ([],([b0,b1,b2,b3],(log,([],())))))) (hpS 0 (blks a_out.s (a_out.op ([],([b0,b1,b2,b3],(log,([],()))))))) (outY Tryz.prog [22] 0 0 (tC (qR .bs (nu 0)) tNil).s tNil.s fun q=>((tC (qR .bs (nu 0)) tNil).cl q.1,tNil.cl q.2))=gOut4 b0 b1 b2 b3 log:=by kernel_rfl
noncomputable def gOut5 (b0:Bs) (b1:Bs) (b2:Bs) (b3:Bs) (b4:Bs) (log:List MCall):Option ((List Bs × Unit) × Unit) :=
 gSt (Engine.mk [] 0) (0:Int) b0 fun s0=>gSt s0.se.engine (1:Int) b1 fun s1=>gSt s1.se.engine (2:Int) b2 fun s2=>gSt s2.se.engine (3:Int) b3 fun s3=>gSt s3.se.engine (4:Int) b4 fun s4=>bnd (f_mixFollow5 (((wE s0 s4.se.engine),((zE s1),((zE s2),((zE s3),((zE s4),())))))) log) fun y=>bnd (f_soOut y.2.1.1) fun o0=>bnd (f_soOut (wE y.2.1.2.1 o0.2.1.se.engine)) fun o1=>bnd (f_soOut (wE y.2.1.2.2.1 o1.2.1.se.engine)) fun o2=>bnd (f_soOut (wE y.2.1.2.2.2.1 o2.2.1.se.engine)) fun o3=>bnd (f_soOut (wE y.2.1.2.2.2.2.1 o3.2.1.se.engine)) fun o4=>some (([o0.1.1,o1.1.1,o2.1.1,o3.1.1,o4.1.1],()),())
theorem r_out5 (b0:Bs) (b1:Bs) (b2:Bs) (b3:Bs) (b4:Bs) (log:List MCall):runB Tryz.prog (nat_out _) (blkL (P:=Tryz.prog) (k:=6) []) 100 6 (encV a_out.s (a_out.op ([],([b0,b1,b2,b3,b4],(log,([],())))))) (hpS 0 (blks a_out.s (a_out.op ([],([b0,b1,b2,b3,b4],(log,([],()))))))) (outY Tryz.prog [22] 0 0 (tC (qR .bs (nu 0)) tNil).s tNil.s fun q=>((tC (qR .bs (nu 0)) tNil).cl q.1,tNil.cl q.2))=gOut5 b0 b1 b2 b3 b4 log:=by kernel_rfl
noncomputable def gOut6 (b0:Bs) (b1:Bs) (b2:Bs) (b3:Bs) (b4:Bs) (b5:Bs) (log:List MCall):Option ((List Bs × Unit) × Unit) :=
 gSt (Engine.mk [] 0) (0:Int) b0 fun s0=>gSt s0.se.engine (1:Int) b1 fun s1=>gSt s1.se.engine (2:Int) b2 fun s2=>gSt s2.se.engine (3:Int) b3 fun s3=>gSt s3.se.engine (4:Int) b4 fun s4=>gSt s4.se.engine (5:Int) b5 fun s5=>bnd (f_mixFollow6 (((wE s0 s5.se.engine),((zE s1),((zE s2),((zE s3),((zE s4),((zE s5),()))))))) log) fun y=>bnd (f_soOut y.2.1.1) fun o0=>bnd (f_soOut (wE y.2.1.2.1 o0.2.1.se.engine)) fun o1=>bnd (f_soOut (wE y.2.1.2.2.1 o1.2.1.se.engine)) fun o2=>bnd (f_soOut (wE y.2.1.2.2.2.1 o2.2.1.se.engine)) fun o3=>bnd (f_soOut (wE y.2.1.2.2.2.2.1 o3.2.1.se.engine)) fun o4=>bnd (f_soOut (wE y.2.1.2.2.2.2.2.1 o4.2.1.se.engine)) fun o5=>some (([o0.1.1,o1.1.1,o2.1.1,o3.1.1,o4.1.1,o5.1.1],()),())
theorem r_out6 (b0:Bs) (b1:Bs) (b2:Bs) (b3:Bs) (b4:Bs) (b5:Bs) (log:List MCall):runB Tryz.prog (nat_out _) (blkL (P:=Tryz.prog) (k:=6) []) 100 6 (encV a_out.s (a_out.op ([],([b0,b1,b2,b3,b4,b5],(log,([],())))))) (hpS 0 (blks a_out.s (a_out.op ([],([b0,b1,b2,b3,b4,b5],(log,([],()))))))) (outY Tryz.prog [22] 0 0 (tC (qR .bs (nu 0)) tNil).s tNil.s fun q=>((tC (qR .bs (nu 0)) tNil).cl q.1,tNil.cl q.2))=gOut6 b0 b1 b2 b3 b4 b5 log:=by kernel_rfl
noncomputable def f_mixOut:a_out.α→Option ((List Bs × Unit) × Unit)
  | ([],([],(log,([],()))))=>gOut0 log
  | ([],([b0],(log,([],()))))=>gOut1 b0 log
  | ([],([b0,b1],(log,([],()))))=>gOut2 b0 b1 log
  | ([],([b0,b1,b2],(log,([],()))))=>gOut3 b0 b1 b2 log
  | ([],([b0,b1,b2,b3],(log,([],()))))=>gOut4 b0 b1 b2 b3 log
  | ([],([b0,b1,b2,b3,b4],(log,([],()))))=>gOut5 b0 b1 b2 b3 b4 log
  | ([],([b0,b1,b2,b3,b4,b5],(log,([],()))))=>gOut6 b0 b1 b2 b3 b4 b5 log
  | _=>none
theorem r_out:∀ x y,f_mixOut x=some y→runB Tryz.prog (nat_out _) (blkL (P:=Tryz.prog) (k:=6) []) 100 6 (encV a_out.s (a_out.op x)) (hpS 0 (blks a_out.s (a_out.op x))) (outY Tryz.prog [22] 0 0 (tC (qR .bs (nu 0)) tNil).s tNil.s fun q=>((tC (qR .bs (nu 0)) tNil).cl q.1,tNil.cl q.2))=some y
  | ([],([],(log,([],())))),y,e=>(r_out0 log).trans e
  | ([],([b0],(log,([],())))),y,e=>(r_out1 b0 log).trans e
  | ([],([b0,b1],(log,([],())))),y,e=>(r_out2 b0 b1 log).trans e
  | ([],([b0,b1,b2],(log,([],())))),y,e=>(r_out3 b0 b1 b2 log).trans e
  | ([],([b0,b1,b2,b3],(log,([],())))),y,e=>(r_out4 b0 b1 b2 b3 log).trans e
  | ([],([b0,b1,b2,b3,b4],(log,([],())))),y,e=>(r_out5 b0 b1 b2 b3 b4 log).trans e
  | ([],([b0,b1,b2,b3,b4,b5],(log,([],())))),y,e=>(r_out6 b0 b1 b2 b3 b4 b5 log).trans e
  | (_ :: _,_),_,e=>by cases e
  | ([],(_,(_,(_ :: _,_)))),_,e=>by simp only [f_mixOut] at e;cases e
  | ([],(_ :: _ :: _ :: _ :: _ :: _ :: _ :: _,(_,([],_)))),_,e=>by cases e
noncomputable def c_mixOut:Go.RK.Fn Tryz.prog 6:=mkFnP hm0 en0 (by kernel_rfl) [37,22,23,33] [22] a_out (tC (qR .bs (nu 0)) tNil) tNil 0 0 (nat_out_ok) [] (by kernel_rfl) f_mixOut r_out
end Go.Proofs.YtjgeofdgdlmcoaaGreatDoor
namespace Go.Proofs.YtjgeofdgdlmcoaaGreatDoor
open Go Go.RK
open Go.RK.Uni (Ty El)
open Go.RK.Byt (bT)
attribute [grind =] wE zE
noncomputable def c0 (p:Unit) (a:MCall):Option (Unit) :=
 bif ( ltI a.client ( 0:Int ) ) then
  some ( )
 else bif ( leI ( Int.ofNat ( 0:Nat ) ) a.client ) then
  some ( )
 else bif ( leI ( 1099511627776:Int ) a.index ) then
  some ( )
 else none
def J0 (p:Unit):Prop:=True
attribute [grind =] J0
def R0 (p q:Unit):Prop:=True
attribute [grind =] R0
theorem R0_refl (p:Unit):R0 p p:=by unfold R0;trivial
theorem R0_trans {p q r:Unit} (h:R0 p q) (k:R0 q r):R0 p r:=by unfold R0 at *;trivial
theorem t_c0 (p:Unit) (a:MCall) (h0:J0 p) (h1 : -9223372036854775808≤a.index):Tt (c0 p a) fun q=>J0 q∧R0 p q:=by
 unfold c0
 refine Tt.bif (fun h=>?_) (fun h=>?_)
 exact Tt.ret (by grind)
 refine Tt.bif (fun h=>?_) (fun h=>?_)
 exact Tt.ret (by grind)
 refine Tt.ok (by grind) ?_
 exact Tt.ret (by grind)
theorem s_mf0 (p:Unit) (l:List MCall) (n i:Int) (h:0≤i∧i < n∧n=l.length∧n≤1000):s_mixFollow0_0 p l n i=bnd (c0 p (getU (t:=Tm.call) l i)) fun q=>some (.inl (q,(l,(n,(i+1,()))))):=by
  unfold s_mixFollow0_0 c0
  have h1:ltI i n=true:=by grind
  have h2:inB i l.length=true:=by grind
  have h3:inR (i+1)=true:=by grind
  simp only [h1,h2,h3,cond_true,bif_bnd,bnd_bnd,bnd_ret,bnd_non]
noncomputable def c1 (p:( Solo × Unit )) (a:MCall):Option (( Solo × Unit )) :=
 bif ( ltI a.client ( 0:Int ) ) then
  some ( p.1 , ( ) )
 else bif ( leI ( Int.ofNat ( 1:Nat ) ) a.client ) then
  some ( p.1 , ( ) )
 else bif ( leI ( 1099511627776:Int ) a.index ) then
  some ( p.1 , ( ) )
 else bif decide ( a.client=( Int.ofNat ( 0:Nat ) ) ) then
  bif ( inR ( a.index+( 1:Int ) ) ) then
   bnd (f_mixUpto p.1 ( a.index+( 1:Int ) )) fun y1 =>
   some ( y1.2.1 , ( ) )
  else none
 else none
def J1 (p:( Solo × Unit )):Prop:=SoR p.1∧p.1.id=0∧0≤p.1.se.engine.count∧p.1.se.engine.count+(p.1.cl.fr.bytes.length:Nat)≤100000
attribute [grind =] J1
def R1 (p q:( Solo × Unit )):Prop:=(p.1.out <+: q.1.out)
attribute [grind =] R1
theorem R1_refl (p:( Solo × Unit )):R1 p p:=by unfold R1;exact List.prefix_refl _
theorem R1_trans {p q r:( Solo × Unit )} (h:R1 p q) (k:R1 q r):R1 p r:=by unfold R1 at *;exact h.trans k
theorem t_c1 (p:( Solo × Unit )) (a:MCall) (h0:J1 p) (h1 : -9223372036854775808≤a.index):Tt (c1 p a) fun q=>J1 q∧R1 p q:=by
 unfold c1
 refine Tt.bif (fun h=>?_) (fun h=>?_)
 exact Tt.ret (by grind)
 refine Tt.bif (fun h=>?_) (fun h=>?_)
 exact Tt.ret (by grind)
 refine Tt.bif (fun h=>?_) (fun h=>?_)
 exact Tt.ret (by grind)
 refine Tt.ok (by grind) ?_
 refine Tt.ok (by grind) ?_
 refine Tt.bnd (t_mixUpto _ _ (by grind) (by grind)) fun y1 hy1=>?_
 exact Tt.ret (by grind)
theorem s_mf1 (p:( Solo × Unit )) (l:List MCall) (n i:Int) (h:0≤i∧i < n∧n=l.length∧n≤1000):s_mixFollow1_0 p l n i=bnd (c1 p (getU (t:=Tm.call) l i)) fun q=>some (.inl (q,(l,(n,(i+1,()))))):=by
  unfold s_mixFollow1_0 c1
  have h1:ltI i n=true:=by grind
  have h2:inB i l.length=true:=by grind
  have h3:inR (i+1)=true:=by grind
  simp only [h1,h2,h3,cond_true,bif_bnd,bnd_bnd,bnd_ret,bnd_non]
noncomputable def c2 (p:( Solo × ( Solo × Unit ) )) (a:MCall):Option (( Solo × ( Solo × Unit ) )) :=
 bif ( ltI a.client ( 0:Int ) ) then
  some ( p.1 , ( ( zE p.2.1 ) , ( ) ) )
 else bif ( leI ( Int.ofNat ( 2:Nat ) ) a.client ) then
  some ( p.1 , ( ( zE p.2.1 ) , ( ) ) )
 else bif ( leI ( 1099511627776:Int ) a.index ) then
  some ( p.1 , ( ( zE p.2.1 ) , ( ) ) )
 else bif decide ( a.client=( Int.ofNat ( 0:Nat ) ) ) then
  bif ( inR ( a.index+( 1:Int ) ) ) then
   bnd (f_mixUpto p.1 ( a.index+( 1:Int ) )) fun y2 =>
   some ( y2.2.1 , ( ( zE p.2.1 ) , ( ) ) )
  else none
 else bif decide ( a.client=( Int.ofNat ( ( 0:Nat )+( 1:Nat ) ) ) ) then
  bif ( inR ( a.index+( 1:Int ) ) ) then
   bnd (f_mixUpto ( wE p.2.1 p.1.se.engine ) ( a.index+( 1:Int ) )) fun y3 =>
   some ( ( wE p.1 y3.2.1.se.engine ) , ( ( zE y3.2.1 ) , ( ) ) )
  else none
 else none
def J2 (p:( Solo × ( Solo × Unit ) )):Prop:=SoR p.1∧p.1.id=0∧SoR p.2.1∧p.2.1.id=1∧0≤p.1.se.engine.count∧p.1.se.engine.count+(p.1.cl.fr.bytes.length+p.2.1.cl.fr.bytes.length:Nat)≤100000
attribute [grind =] J2
def R2 (p q:( Solo × ( Solo × Unit ) )):Prop:=(p.1.out <+: q.1.out)∧(p.2.1.out <+: q.2.1.out)
attribute [grind =] R2
theorem R2_refl (p:( Solo × ( Solo × Unit ) )):R2 p p:=by unfold R2;exact ⟨List.prefix_refl _,List.prefix_refl _⟩
theorem R2_trans {p q r:( Solo × ( Solo × Unit ) )} (h:R2 p q) (k:R2 q r):R2 p r:=by unfold R2 at *;exact ⟨h.1.trans k.1,h.2.trans k.2⟩
theorem t_c2 (p:( Solo × ( Solo × Unit ) )) (a:MCall) (h0:J2 p) (h1 : -9223372036854775808≤a.index):Tt (c2 p a) fun q=>J2 q∧R2 p q:=by
 unfold c2
 refine Tt.bif (fun h=>?_) (fun h=>?_)
 exact Tt.ret (by grind)
 refine Tt.bif (fun h=>?_) (fun h=>?_)
 exact Tt.ret (by grind)
 refine Tt.bif (fun h=>?_) (fun h=>?_)
 exact Tt.ret (by grind)
 refine Tt.bif (fun h=>?_) (fun h=>?_)
 refine Tt.ok (by grind) ?_
 refine Tt.bnd (t_mixUpto _ _ (by grind) (by grind)) fun y2 hy2=>?_
 exact Tt.ret (by grind)
 refine Tt.ok (by grind) ?_
 refine Tt.ok (by grind) ?_
 refine Tt.bnd (t_mixUpto _ _ (by grind) (by grind)) fun y3 hy3=>?_
 exact Tt.ret (by grind)
theorem s_mf2 (p:( Solo × ( Solo × Unit ) )) (l:List MCall) (n i:Int) (h:0≤i∧i < n∧n=l.length∧n≤1000):s_mixFollow2_0 p l n i=bnd (c2 p (getU (t:=Tm.call) l i)) fun q=>some (.inl (q,(l,(n,(i+1,()))))):=by
  unfold s_mixFollow2_0 c2
  have h1:ltI i n=true:=by grind
  have h2:inB i l.length=true:=by grind
  have h3:inR (i+1)=true:=by grind
  simp only [h1,h2,h3,cond_true,bif_bnd,bnd_bnd,bnd_ret,bnd_non]
noncomputable def c3 (p:( Solo × ( Solo × ( Solo × Unit ) ) )) (a:MCall):Option (( Solo × ( Solo × ( Solo × Unit ) ) )) :=
 bif ( ltI a.client ( 0:Int ) ) then
  some ( p.1 , ( ( zE p.2.1 ) , ( ( zE p.2.2.1 ) , ( ) ) ) )
 else bif ( leI ( Int.ofNat ( 3:Nat ) ) a.client ) then
  some ( p.1 , ( ( zE p.2.1 ) , ( ( zE p.2.2.1 ) , ( ) ) ) )
 else bif ( leI ( 1099511627776:Int ) a.index ) then
  some ( p.1 , ( ( zE p.2.1 ) , ( ( zE p.2.2.1 ) , ( ) ) ) )
 else bif decide ( a.client=( Int.ofNat ( 0:Nat ) ) ) then
  bif ( inR ( a.index+( 1:Int ) ) ) then
   bnd (f_mixUpto p.1 ( a.index+( 1:Int ) )) fun y3 =>
   some ( y3.2.1 , ( ( zE p.2.1 ) , ( ( zE p.2.2.1 ) , ( ) ) ) )
  else none
 else bif decide ( a.client=( Int.ofNat ( ( 0:Nat )+( 1:Nat ) ) ) ) then
  bif ( inR ( a.index+( 1:Int ) ) ) then
   bnd (f_mixUpto ( wE p.2.1 p.1.se.engine ) ( a.index+( 1:Int ) )) fun y4 =>
   some ( ( wE p.1 y4.2.1.se.engine ) , ( ( zE y4.2.1 ) , ( ( zE p.2.2.1 ) , ( ) ) ) )
  else none
 else bif decide ( a.client=( Int.ofNat ( ( ( 0:Nat )+( 1:Nat ) )+( 1:Nat ) ) ) ) then
  bif ( inR ( a.index+( 1:Int ) ) ) then
   bnd (f_mixUpto ( wE p.2.2.1 p.1.se.engine ) ( a.index+( 1:Int ) )) fun y5 =>
   some ( ( wE p.1 y5.2.1.se.engine ) , ( ( zE p.2.1 ) , ( ( zE y5.2.1 ) , ( ) ) ) )
  else none
 else none
def J3 (p:( Solo × ( Solo × ( Solo × Unit ) ) )):Prop:=SoR p.1∧p.1.id=0∧SoR p.2.1∧p.2.1.id=1∧SoR p.2.2.1∧p.2.2.1.id=2∧0≤p.1.se.engine.count∧p.1.se.engine.count+(p.1.cl.fr.bytes.length+p.2.1.cl.fr.bytes.length+p.2.2.1.cl.fr.bytes.length:Nat)≤100000
attribute [grind =] J3
def R3 (p q:( Solo × ( Solo × ( Solo × Unit ) ) )):Prop:=(p.1.out <+: q.1.out)∧(p.2.1.out <+: q.2.1.out)∧(p.2.2.1.out <+: q.2.2.1.out)
attribute [grind =] R3
theorem R3_refl (p:( Solo × ( Solo × ( Solo × Unit ) ) )):R3 p p:=by unfold R3;exact ⟨List.prefix_refl _,List.prefix_refl _,List.prefix_refl _⟩
theorem R3_trans {p q r:( Solo × ( Solo × ( Solo × Unit ) ) )} (h:R3 p q) (k:R3 q r):R3 p r:=by unfold R3 at *;exact ⟨h.1.trans k.1,h.2.1.trans k.2.1,h.2.2.trans k.2.2⟩
theorem t_c3 (p:( Solo × ( Solo × ( Solo × Unit ) ) )) (a:MCall) (h0:J3 p) (h1 : -9223372036854775808≤a.index):Tt (c3 p a) fun q=>J3 q∧R3 p q:=by
 unfold c3
 refine Tt.bif (fun h=>?_) (fun h=>?_)
 exact Tt.ret (by grind)
 refine Tt.bif (fun h=>?_) (fun h=>?_)
 exact Tt.ret (by grind)
 refine Tt.bif (fun h=>?_) (fun h=>?_)
 exact Tt.ret (by grind)
 refine Tt.bif (fun h=>?_) (fun h=>?_)
 refine Tt.ok (by grind) ?_
 refine Tt.bnd (t_mixUpto _ _ (by grind) (by grind)) fun y3 hy3=>?_
 exact Tt.ret (by grind)
 refine Tt.bif (fun h=>?_) (fun h=>?_)
 refine Tt.ok (by grind) ?_
 refine Tt.bnd (t_mixUpto _ _ (by grind) (by grind)) fun y4 hy4=>?_
 exact Tt.ret (by grind)
 refine Tt.ok (by grind) ?_
 refine Tt.ok (by grind) ?_
 refine Tt.bnd (t_mixUpto _ _ (by grind) (by grind)) fun y5 hy5=>?_
 exact Tt.ret (by grind)
theorem s_mf3 (p:( Solo × ( Solo × ( Solo × Unit ) ) )) (l:List MCall) (n i:Int) (h:0≤i∧i < n∧n=l.length∧n≤1000):s_mixFollow3_0 p l n i=bnd (c3 p (getU (t:=Tm.call) l i)) fun q=>some (.inl (q,(l,(n,(i+1,()))))):=by
  unfold s_mixFollow3_0 c3
  have h1:ltI i n=true:=by grind
  have h2:inB i l.length=true:=by grind
  have h3:inR (i+1)=true:=by grind
  simp only [h1,h2,h3,cond_true,bif_bnd,bnd_bnd,bnd_ret,bnd_non]
noncomputable def c4 (p:( Solo × ( Solo × ( Solo × ( Solo × Unit ) ) ) )) (a:MCall):Option (( Solo × ( Solo × ( Solo × ( Solo × Unit ) ) ) )) :=
 bif ( ltI a.client ( 0:Int ) ) then
  some ( p.1 , ( ( zE p.2.1 ) , ( ( zE p.2.2.1 ) , ( ( zE p.2.2.2.1 ) , ( ) ) ) ) )
 else bif ( leI ( Int.ofNat ( 4:Nat ) ) a.client ) then
  some ( p.1 , ( ( zE p.2.1 ) , ( ( zE p.2.2.1 ) , ( ( zE p.2.2.2.1 ) , ( ) ) ) ) )
 else bif ( leI ( 1099511627776:Int ) a.index ) then
  some ( p.1 , ( ( zE p.2.1 ) , ( ( zE p.2.2.1 ) , ( ( zE p.2.2.2.1 ) , ( ) ) ) ) )
 else bif decide ( a.client=( Int.ofNat ( 0:Nat ) ) ) then
  bif ( inR ( a.index+( 1:Int ) ) ) then
   bnd (f_mixUpto p.1 ( a.index+( 1:Int ) )) fun y4 =>
   some ( y4.2.1 , ( ( zE p.2.1 ) , ( ( zE p.2.2.1 ) , ( ( zE p.2.2.2.1 ) , ( ) ) ) ) )
  else none
 else bif decide ( a.client=( Int.ofNat ( ( 0:Nat )+( 1:Nat ) ) ) ) then
  bif ( inR ( a.index+( 1:Int ) ) ) then
   bnd (f_mixUpto ( wE p.2.1 p.1.se.engine ) ( a.index+( 1:Int ) )) fun y5 =>
   some ( ( wE p.1 y5.2.1.se.engine ) , ( ( zE y5.2.1 ) , ( ( zE p.2.2.1 ) , ( ( zE p.2.2.2.1 ) , ( ) ) ) ) )
  else none
 else bif decide ( a.client=( Int.ofNat ( ( ( 0:Nat )+( 1:Nat ) )+( 1:Nat ) ) ) ) then
  bif ( inR ( a.index+( 1:Int ) ) ) then
   bnd (f_mixUpto ( wE p.2.2.1 p.1.se.engine ) ( a.index+( 1:Int ) )) fun y6 =>
   some ( ( wE p.1 y6.2.1.se.engine ) , ( ( zE p.2.1 ) , ( ( zE y6.2.1 ) , ( ( zE p.2.2.2.1 ) , ( ) ) ) ) )
  else none
 else bif decide ( a.client=( Int.ofNat ( ( ( ( 0:Nat )+( 1:Nat ) )+( 1:Nat ) )+( 1:Nat ) ) ) ) then
  bif ( inR ( a.index+( 1:Int ) ) ) then
   bnd (f_mixUpto ( wE p.2.2.2.1 p.1.se.engine ) ( a.index+( 1:Int ) )) fun y7 =>
   some ( ( wE p.1 y7.2.1.se.engine ) , ( ( zE p.2.1 ) , ( ( zE p.2.2.1 ) , ( ( zE y7.2.1 ) , ( ) ) ) ) )
  else none
 else none
def J4 (p:( Solo × ( Solo × ( Solo × ( Solo × Unit ) ) ) )):Prop:=SoR p.1∧p.1.id=0∧SoR p.2.1∧p.2.1.id=1∧SoR p.2.2.1∧p.2.2.1.id=2∧SoR p.2.2.2.1∧p.2.2.2.1.id=3∧0≤p.1.se.engine.count∧p.1.se.engine.count+(p.1.cl.fr.bytes.length+p.2.1.cl.fr.bytes.length+p.2.2.1.cl.fr.bytes.length+p.2.2.2.1.cl.fr.bytes.length:Nat)≤100000
attribute [grind =] J4
def R4 (p q:( Solo × ( Solo × ( Solo × ( Solo × Unit ) ) ) )):Prop:=(p.1.out <+: q.1.out)∧(p.2.1.out <+: q.2.1.out)∧(p.2.2.1.out <+: q.2.2.1.out)∧(p.2.2.2.1.out <+: q.2.2.2.1.out)
attribute [grind =] R4
theorem R4_refl (p:( Solo × ( Solo × ( Solo × ( Solo × Unit ) ) ) )):R4 p p:=by unfold R4;exact ⟨List.prefix_refl _,List.prefix_refl _,List.prefix_refl _,List.prefix_refl _⟩
theorem R4_trans {p q r:( Solo × ( Solo × ( Solo × ( Solo × Unit ) ) ) )} (h:R4 p q) (k:R4 q r):R4 p r:=by unfold R4 at *;exact ⟨h.1.trans k.1,h.2.1.trans k.2.1,h.2.2.1.trans k.2.2.1,h.2.2.2.trans k.2.2.2⟩
theorem t_c4 (p:( Solo × ( Solo × ( Solo × ( Solo × Unit ) ) ) )) (a:MCall) (h0:J4 p) (h1 : -9223372036854775808≤a.index):Tt (c4 p a) fun q=>J4 q∧R4 p q:=by
 unfold c4
 refine Tt.bif (fun h=>?_) (fun h=>?_)
 exact Tt.ret (by grind)
 refine Tt.bif (fun h=>?_) (fun h=>?_)
 exact Tt.ret (by grind)
 refine Tt.bif (fun h=>?_) (fun h=>?_)
 exact Tt.ret (by grind)
 refine Tt.bif (fun h=>?_) (fun h=>?_)
 refine Tt.ok (by grind) ?_
 refine Tt.bnd (t_mixUpto _ _ (by grind) (by grind)) fun y4 hy4=>?_
 exact Tt.ret (by grind)
 refine Tt.bif (fun h=>?_) (fun h=>?_)
 refine Tt.ok (by grind) ?_
 refine Tt.bnd (t_mixUpto _ _ (by grind) (by grind)) fun y5 hy5=>?_
 exact Tt.ret (by grind)
 refine Tt.bif (fun h=>?_) (fun h=>?_)
 refine Tt.ok (by grind) ?_
 refine Tt.bnd (t_mixUpto _ _ (by grind) (by grind)) fun y6 hy6=>?_
 exact Tt.ret (by grind)
 refine Tt.ok (by grind) ?_
 refine Tt.ok (by grind) ?_
 refine Tt.bnd (t_mixUpto _ _ (by grind) (by grind)) fun y7 hy7=>?_
 exact Tt.ret (by grind)
theorem s_mf4 (p:( Solo × ( Solo × ( Solo × ( Solo × Unit ) ) ) )) (l:List MCall) (n i:Int) (h:0≤i∧i < n∧n=l.length∧n≤1000):s_mixFollow4_0 p l n i=bnd (c4 p (getU (t:=Tm.call) l i)) fun q=>some (.inl (q,(l,(n,(i+1,()))))):=by
  unfold s_mixFollow4_0 c4
  have h1:ltI i n=true:=by grind
  have h2:inB i l.length=true:=by grind
  have h3:inR (i+1)=true:=by grind
  simp only [h1,h2,h3,cond_true,bif_bnd,bnd_bnd,bnd_ret,bnd_non]
noncomputable def c5 (p:( Solo × ( Solo × ( Solo × ( Solo × ( Solo × Unit ) ) ) ) )) (a:MCall):Option (( Solo × ( Solo × ( Solo × ( Solo × ( Solo × Unit ) ) ) ) )) :=
 bif ( ltI a.client ( 0:Int ) ) then
  some ( p.1 , ( ( zE p.2.1 ) , ( ( zE p.2.2.1 ) , ( ( zE p.2.2.2.1 ) , ( ( zE p.2.2.2.2.1 ) , ( ) ) ) ) ) )
 else bif ( leI ( Int.ofNat ( 5:Nat ) ) a.client ) then
  some ( p.1 , ( ( zE p.2.1 ) , ( ( zE p.2.2.1 ) , ( ( zE p.2.2.2.1 ) , ( ( zE p.2.2.2.2.1 ) , ( ) ) ) ) ) )
 else bif ( leI ( 1099511627776:Int ) a.index ) then
  some ( p.1 , ( ( zE p.2.1 ) , ( ( zE p.2.2.1 ) , ( ( zE p.2.2.2.1 ) , ( ( zE p.2.2.2.2.1 ) , ( ) ) ) ) ) )
 else bif decide ( a.client=( Int.ofNat ( 0:Nat ) ) ) then
  bif ( inR ( a.index+( 1:Int ) ) ) then
   bnd (f_mixUpto p.1 ( a.index+( 1:Int ) )) fun y5 =>
   some ( y5.2.1 , ( ( zE p.2.1 ) , ( ( zE p.2.2.1 ) , ( ( zE p.2.2.2.1 ) , ( ( zE p.2.2.2.2.1 ) , ( ) ) ) ) ) )
  else none
 else bif decide ( a.client=( Int.ofNat ( ( 0:Nat )+( 1:Nat ) ) ) ) then
  bif ( inR ( a.index+( 1:Int ) ) ) then
   bnd (f_mixUpto ( wE p.2.1 p.1.se.engine ) ( a.index+( 1:Int ) )) fun y6 =>
   some ( ( wE p.1 y6.2.1.se.engine ) , ( ( zE y6.2.1 ) , ( ( zE p.2.2.1 ) , ( ( zE p.2.2.2.1 ) , ( ( zE p.2.2.2.2.1 ) , ( ) ) ) ) ) )
  else none
 else bif decide ( a.client=( Int.ofNat ( ( ( 0:Nat )+( 1:Nat ) )+( 1:Nat ) ) ) ) then
  bif ( inR ( a.index+( 1:Int ) ) ) then
   bnd (f_mixUpto ( wE p.2.2.1 p.1.se.engine ) ( a.index+( 1:Int ) )) fun y7 =>
   some ( ( wE p.1 y7.2.1.se.engine ) , ( ( zE p.2.1 ) , ( ( zE y7.2.1 ) , ( ( zE p.2.2.2.1 ) , ( ( zE p.2.2.2.2.1 ) , ( ) ) ) ) ) )
  else none
 else bif decide ( a.client=( Int.ofNat ( ( ( ( 0:Nat )+( 1:Nat ) )+( 1:Nat ) )+( 1:Nat ) ) ) ) then
  bif ( inR ( a.index+( 1:Int ) ) ) then
   bnd (f_mixUpto ( wE p.2.2.2.1 p.1.se.engine ) ( a.index+( 1:Int ) )) fun y8 =>
   some ( ( wE p.1 y8.2.1.se.engine ) , ( ( zE p.2.1 ) , ( ( zE p.2.2.1 ) , ( ( zE y8.2.1 ) , ( ( zE p.2.2.2.2.1 ) , ( ) ) ) ) ) )
  else none
 else bif decide ( a.client=( Int.ofNat ( ( ( ( ( 0:Nat )+( 1:Nat ) )+( 1:Nat ) )+( 1:Nat ) )+( 1:Nat ) ) ) ) then
  bif ( inR ( a.index+( 1:Int ) ) ) then
   bnd (f_mixUpto ( wE p.2.2.2.2.1 p.1.se.engine ) ( a.index+( 1:Int ) )) fun y9 =>
   some ( ( wE p.1 y9.2.1.se.engine ) , ( ( zE p.2.1 ) , ( ( zE p.2.2.1 ) , ( ( zE p.2.2.2.1 ) , ( ( zE y9.2.1 ) , ( ) ) ) ) ) )
  else none
 else none
def J5 (p:( Solo × ( Solo × ( Solo × ( Solo × ( Solo × Unit ) ) ) ) )):Prop:=SoR p.1∧p.1.id=0∧SoR p.2.1∧p.2.1.id=1∧SoR p.2.2.1∧p.2.2.1.id=2∧SoR p.2.2.2.1∧p.2.2.2.1.id=3∧SoR p.2.2.2.2.1∧p.2.2.2.2.1.id=4∧0≤p.1.se.engine.count∧p.1.se.engine.count+(p.1.cl.fr.bytes.length+p.2.1.cl.fr.bytes.length+p.2.2.1.cl.fr.bytes.length+p.2.2.2.1.cl.fr.bytes.length+p.2.2.2.2.1.cl.fr.bytes.length:Nat)≤100000
attribute [grind =] J5
def R5 (p q:( Solo × ( Solo × ( Solo × ( Solo × ( Solo × Unit ) ) ) ) )):Prop:=(p.1.out <+: q.1.out)∧(p.2.1.out <+: q.2.1.out)∧(p.2.2.1.out <+: q.2.2.1.out)∧(p.2.2.2.1.out <+: q.2.2.2.1.out)∧(p.2.2.2.2.1.out <+: q.2.2.2.2.1.out)
attribute [grind =] R5
theorem R5_refl (p:( Solo × ( Solo × ( Solo × ( Solo × ( Solo × Unit ) ) ) ) )):R5 p p:=by unfold R5;exact ⟨List.prefix_refl _,List.prefix_refl _,List.prefix_refl _,List.prefix_refl _,List.prefix_refl _⟩
theorem R5_trans {p q r:( Solo × ( Solo × ( Solo × ( Solo × ( Solo × Unit ) ) ) ) )} (h:R5 p q) (k:R5 q r):R5 p r:=by unfold R5 at *;exact ⟨h.1.trans k.1,h.2.1.trans k.2.1,h.2.2.1.trans k.2.2.1,h.2.2.2.1.trans k.2.2.2.1,h.2.2.2.2.trans k.2.2.2.2⟩
theorem t_c5 (p:( Solo × ( Solo × ( Solo × ( Solo × ( Solo × Unit ) ) ) ) )) (a:MCall) (h0:J5 p) (h1 : -9223372036854775808≤a.index):Tt (c5 p a) fun q=>J5 q∧R5 p q:=by
 unfold c5
 refine Tt.bif (fun h=>?_) (fun h=>?_)
 exact Tt.ret (by grind)
 refine Tt.bif (fun h=>?_) (fun h=>?_)
 exact Tt.ret (by grind)
 refine Tt.bif (fun h=>?_) (fun h=>?_)
 exact Tt.ret (by grind)
 refine Tt.bif (fun h=>?_) (fun h=>?_)
 refine Tt.ok (by grind) ?_
 refine Tt.bnd (t_mixUpto _ _ (by grind) (by grind)) fun y5 hy5=>?_
 exact Tt.ret (by grind)
 refine Tt.bif (fun h=>?_) (fun h=>?_)
 refine Tt.ok (by grind) ?_
 refine Tt.bnd (t_mixUpto _ _ (by grind) (by grind)) fun y6 hy6=>?_
 exact Tt.ret (by grind)
 refine Tt.bif (fun h=>?_) (fun h=>?_)
 refine Tt.ok (by grind) ?_
 refine Tt.bnd (t_mixUpto _ _ (by grind) (by grind)) fun y7 hy7=>?_
 exact Tt.ret (by grind)
 refine Tt.bif (fun h=>?_) (fun h=>?_)
 refine Tt.ok (by grind) ?_
 refine Tt.bnd (t_mixUpto _ _ (by grind) (by grind)) fun y8 hy8=>?_
 exact Tt.ret (by grind)
 refine Tt.ok (by grind) ?_
 refine Tt.ok (by grind) ?_
 refine Tt.bnd (t_mixUpto _ _ (by grind) (by grind)) fun y9 hy9=>?_
 exact Tt.ret (by grind)
theorem s_mf5 (p:( Solo × ( Solo × ( Solo × ( Solo × ( Solo × Unit ) ) ) ) )) (l:List MCall) (n i:Int) (h:0≤i∧i < n∧n=l.length∧n≤1000):s_mixFollow5_0 p l n i=bnd (c5 p (getU (t:=Tm.call) l i)) fun q=>some (.inl (q,(l,(n,(i+1,()))))):=by
  unfold s_mixFollow5_0 c5
  have h1:ltI i n=true:=by grind
  have h2:inB i l.length=true:=by grind
  have h3:inR (i+1)=true:=by grind
  simp only [h1,h2,h3,cond_true,bif_bnd,bnd_bnd,bnd_ret,bnd_non]
noncomputable def c6 (p:( Solo × ( Solo × ( Solo × ( Solo × ( Solo × ( Solo × Unit ) ) ) ) ) )) (a:MCall):Option (( Solo × ( Solo × ( Solo × ( Solo × ( Solo × ( Solo × Unit ) ) ) ) ) )) :=
 bif ( ltI a.client ( 0:Int ) ) then
  some ( p.1 , ( ( zE p.2.1 ) , ( ( zE p.2.2.1 ) , ( ( zE p.2.2.2.1 ) , ( ( zE p.2.2.2.2.1 ) , ( ( zE p.2.2.2.2.2.1 ) , ( ) ) ) ) ) ) )
 else bif ( leI ( Int.ofNat ( 6:Nat ) ) a.client ) then
  some ( p.1 , ( ( zE p.2.1 ) , ( ( zE p.2.2.1 ) , ( ( zE p.2.2.2.1 ) , ( ( zE p.2.2.2.2.1 ) , ( ( zE p.2.2.2.2.2.1 ) , ( ) ) ) ) ) ) )
 else bif ( leI ( 1099511627776:Int ) a.index ) then
  some ( p.1 , ( ( zE p.2.1 ) , ( ( zE p.2.2.1 ) , ( ( zE p.2.2.2.1 ) , ( ( zE p.2.2.2.2.1 ) , ( ( zE p.2.2.2.2.2.1 ) , ( ) ) ) ) ) ) )
 else bif decide ( a.client=( Int.ofNat ( 0:Nat ) ) ) then
  bif ( inR ( a.index+( 1:Int ) ) ) then
   bnd (f_mixUpto p.1 ( a.index+( 1:Int ) )) fun y6 =>
   some ( y6.2.1 , ( ( zE p.2.1 ) , ( ( zE p.2.2.1 ) , ( ( zE p.2.2.2.1 ) , ( ( zE p.2.2.2.2.1 ) , ( ( zE p.2.2.2.2.2.1 ) , ( ) ) ) ) ) ) )
  else none
 else bif decide ( a.client=( Int.ofNat ( ( 0:Nat )+( 1:Nat ) ) ) ) then
  bif ( inR ( a.index+( 1:Int ) ) ) then
   bnd (f_mixUpto ( wE p.2.1 p.1.se.engine ) ( a.index+( 1:Int ) )) fun y7 =>
   some ( ( wE p.1 y7.2.1.se.engine ) , ( ( zE y7.2.1 ) , ( ( zE p.2.2.1 ) , ( ( zE p.2.2.2.1 ) , ( ( zE p.2.2.2.2.1 ) , ( ( zE p.2.2.2.2.2.1 ) , ( ) ) ) ) ) ) )
  else none
 else bif decide ( a.client=( Int.ofNat ( ( ( 0:Nat )+( 1:Nat ) )+( 1:Nat ) ) ) ) then
  bif ( inR ( a.index+( 1:Int ) ) ) then
   bnd (f_mixUpto ( wE p.2.2.1 p.1.se.engine ) ( a.index+( 1:Int ) )) fun y8 =>
   some ( ( wE p.1 y8.2.1.se.engine ) , ( ( zE p.2.1 ) , ( ( zE y8.2.1 ) , ( ( zE p.2.2.2.1 ) , ( ( zE p.2.2.2.2.1 ) , ( ( zE p.2.2.2.2.2.1 ) , ( ) ) ) ) ) ) )
  else none
 else bif decide ( a.client=( Int.ofNat ( ( ( ( 0:Nat )+( 1:Nat ) )+( 1:Nat ) )+( 1:Nat ) ) ) ) then
  bif ( inR ( a.index+( 1:Int ) ) ) then
   bnd (f_mixUpto ( wE p.2.2.2.1 p.1.se.engine ) ( a.index+( 1:Int ) )) fun y9 =>
   some ( ( wE p.1 y9.2.1.se.engine ) , ( ( zE p.2.1 ) , ( ( zE p.2.2.1 ) , ( ( zE y9.2.1 ) , ( ( zE p.2.2.2.2.1 ) , ( ( zE p.2.2.2.2.2.1 ) , ( ) ) ) ) ) ) )
  else none
 else bif decide ( a.client=( Int.ofNat ( ( ( ( ( 0:Nat )+( 1:Nat ) )+( 1:Nat ) )+( 1:Nat ) )+( 1:Nat ) ) ) ) then
  bif ( inR ( a.index+( 1:Int ) ) ) then
   bnd (f_mixUpto ( wE p.2.2.2.2.1 p.1.se.engine ) ( a.index+( 1:Int ) )) fun y10 =>
   some ( ( wE p.1 y10.2.1.se.engine ) , ( ( zE p.2.1 ) , ( ( zE p.2.2.1 ) , ( ( zE p.2.2.2.1 ) , ( ( zE y10.2.1 ) , ( ( zE p.2.2.2.2.2.1 ) , ( ) ) ) ) ) ) )
  else none
 else bif decide ( a.client=( Int.ofNat ( ( ( ( ( ( 0:Nat )+( 1:Nat ) )+( 1:Nat ) )+( 1:Nat ) )+( 1:Nat ) )+( 1:Nat ) ) ) ) then
  bif ( inR ( a.index+( 1:Int ) ) ) then
   bnd (f_mixUpto ( wE p.2.2.2.2.2.1 p.1.se.engine ) ( a.index+( 1:Int ) )) fun y11 =>
   some ( ( wE p.1 y11.2.1.se.engine ) , ( ( zE p.2.1 ) , ( ( zE p.2.2.1 ) , ( ( zE p.2.2.2.1 ) , ( ( zE p.2.2.2.2.1 ) , ( ( zE y11.2.1 ) , ( ) ) ) ) ) ) )
  else none
 else none
def J6 (p:( Solo × ( Solo × ( Solo × ( Solo × ( Solo × ( Solo × Unit ) ) ) ) ) )):Prop:=SoR p.1∧p.1.id=0∧SoR p.2.1∧p.2.1.id=1∧SoR p.2.2.1∧p.2.2.1.id=2∧SoR p.2.2.2.1∧p.2.2.2.1.id=3∧SoR p.2.2.2.2.1∧p.2.2.2.2.1.id=4∧SoR p.2.2.2.2.2.1∧p.2.2.2.2.2.1.id=5∧0≤p.1.se.engine.count∧p.1.se.engine.count+(p.1.cl.fr.bytes.length+p.2.1.cl.fr.bytes.length+p.2.2.1.cl.fr.bytes.length+p.2.2.2.1.cl.fr.bytes.length+p.2.2.2.2.1.cl.fr.bytes.length+p.2.2.2.2.2.1.cl.fr.bytes.length:Nat)≤100000
attribute [grind =] J6
def R6 (p q:( Solo × ( Solo × ( Solo × ( Solo × ( Solo × ( Solo × Unit ) ) ) ) ) )):Prop:=(p.1.out <+: q.1.out)∧(p.2.1.out <+: q.2.1.out)∧(p.2.2.1.out <+: q.2.2.1.out)∧(p.2.2.2.1.out <+: q.2.2.2.1.out)∧(p.2.2.2.2.1.out <+: q.2.2.2.2.1.out)∧(p.2.2.2.2.2.1.out <+: q.2.2.2.2.2.1.out)
attribute [grind =] R6
theorem R6_refl (p:( Solo × ( Solo × ( Solo × ( Solo × ( Solo × ( Solo × Unit ) ) ) ) ) )):R6 p p:=by unfold R6;exact ⟨List.prefix_refl _,List.prefix_refl _,List.prefix_refl _,List.prefix_refl _,List.prefix_refl _,List.prefix_refl _⟩
theorem R6_trans {p q r:( Solo × ( Solo × ( Solo × ( Solo × ( Solo × ( Solo × Unit ) ) ) ) ) )} (h:R6 p q) (k:R6 q r):R6 p r:=by unfold R6 at *;exact ⟨h.1.trans k.1,h.2.1.trans k.2.1,h.2.2.1.trans k.2.2.1,h.2.2.2.1.trans k.2.2.2.1,h.2.2.2.2.1.trans k.2.2.2.2.1,h.2.2.2.2.2.trans k.2.2.2.2.2⟩
theorem t_c6 (p:( Solo × ( Solo × ( Solo × ( Solo × ( Solo × ( Solo × Unit ) ) ) ) ) )) (a:MCall) (h0:J6 p) (h1 : -9223372036854775808≤a.index):Tt (c6 p a) fun q=>J6 q∧R6 p q:=by
 unfold c6
 refine Tt.bif (fun h=>?_) (fun h=>?_)
 exact Tt.ret (by grind)
 refine Tt.bif (fun h=>?_) (fun h=>?_)
 exact Tt.ret (by grind)
 refine Tt.bif (fun h=>?_) (fun h=>?_)
 exact Tt.ret (by grind)
 refine Tt.bif (fun h=>?_) (fun h=>?_)
 refine Tt.ok (by grind) ?_
 refine Tt.bnd (t_mixUpto _ _ (by grind) (by grind)) fun y6 hy6=>?_
 exact Tt.ret (by grind)
 refine Tt.bif (fun h=>?_) (fun h=>?_)
 refine Tt.ok (by grind) ?_
 refine Tt.bnd (t_mixUpto _ _ (by grind) (by grind)) fun y7 hy7=>?_
 exact Tt.ret (by grind)
 refine Tt.bif (fun h=>?_) (fun h=>?_)
 refine Tt.ok (by grind) ?_
 refine Tt.bnd (t_mixUpto _ _ (by grind) (by grind)) fun y8 hy8=>?_
 exact Tt.ret (by grind)
 refine Tt.bif (fun h=>?_) (fun h=>?_)
 refine Tt.ok (by grind) ?_
 refine Tt.bnd (t_mixUpto _ _ (by grind) (by grind)) fun y9 hy9=>?_
 exact Tt.ret (by grind)
 refine Tt.bif (fun h=>?_) (fun h=>?_)
 refine Tt.ok (by grind) ?_
 refine Tt.bnd (t_mixUpto _ _ (by grind) (by grind)) fun y10 hy10=>?_
 exact Tt.ret (by grind)
 refine Tt.ok (by grind) ?_
 refine Tt.ok (by grind) ?_
 refine Tt.bnd (t_mixUpto _ _ (by grind) (by grind)) fun y11 hy11=>?_
 exact Tt.ret (by grind)
theorem s_mf6 (p:( Solo × ( Solo × ( Solo × ( Solo × ( Solo × ( Solo × Unit ) ) ) ) ) )) (l:List MCall) (n i:Int) (h:0≤i∧i < n∧n=l.length∧n≤1000):s_mixFollow6_0 p l n i=bnd (c6 p (getU (t:=Tm.call) l i)) fun q=>some (.inl (q,(l,(n,(i+1,()))))):=by
  unfold s_mixFollow6_0 c6
  have h1:ltI i n=true:=by grind
  have h2:inB i l.length=true:=by grind
  have h3:inR (i+1)=true:=by grind
  simp only [h1,h2,h3,cond_true,bif_bnd,bnd_bnd,bnd_ret,bnd_non]
end Go.Proofs.YtjgeofdgdlmcoaaGreatDoor
namespace Go.Proofs.YtjgeofdgdlmcoaaGreatDoor
open Go Go.RK
open Go.RK.Uni (Ty El)
open Go.RK.Byt (bT)
theorem soOut_eq (s:Solo) (h:SoR s):f_soOut s=some ((s.out,()),(s,())):=by
  obtain ⟨y,e,h1,h2⟩:=t_soOut s (by grind)
  rw [e]
  obtain ⟨⟨a,⟨⟩⟩,⟨c,⟨⟩⟩⟩:=y
  have h1:a=s.out:=h1
  have h2:c=s:=h2
  rw [h1,h2]
theorem SoR_first {s:Solo} (h:SoR s):s.out=[]∨(∃ l,s.out=78 :: l)∨grB s.id <+: s.out:=by
  obtain ⟨_,_,_,_,h1,h2,_,_⟩:=h
  cases e:s.cl.begun with
  | false=>exact (h1 e).imp id .inl
  | true=>exact .inr (h2 e)
theorem gSt_eq (e:Engine) (i:Int) (b:Bs) (he:0≤e.count∧e.count≤90000) (hi:0≤i∧i≤5) (hb:b.length≤3000):∃ s,(SoR s∧s.id=i∧0≤s.se.engine.count∧s.se.engine.count+s.cl.fr.bytes.length≤e.count+3000)∧∀ {α:Type} (κ:Solo→Option α),gSt e i b κ=κ s:=by
  obtain ⟨y,ey,hy⟩:=t_soNew e [] i (by simp)
  obtain ⟨z,ez,hz⟩:=t_soFeed y.1.1 b (by grind) (by omega) (by grind)
  obtain ⟨g,eg,hg⟩:=t_greetBytes [] i ⟨rfl,hi⟩
  have hN:N0 z.2.1.out:=.inl (by grind)
  obtain ⟨w,ew,hw⟩:=t_mixBegin z.2.1 g.1.1 (by grind) (by grind)
  refine ⟨w.2.1,by grind,fun κ=>?_⟩
  unfold gSt
  rw [ey,bnd_ret,ez,bnd_ret,eg,bnd_ret,ew,bnd_ret]
def LawR:Int→List Bs→List Bs→Prop
  | _,[],[]=>True
  | i,x :: a,y :: b=>(x <+: y)∧(x=[]∨(∃ l,x=78 :: l)∨grB i <+: x)∧LawR (i+1) a b
  | _,_,_=>False
noncomputable def Z0 (_p:Unit):Unit:=()
noncomputable def o0 (_q:Unit):List Bs:=[]
theorem fol0 (p:Unit) (l:List MCall) (hl:l.length≤1000):f_mixFollow0 p l=bnd (foldC c0 (Z0 p) l) fun _=>some ((),()):=by
  unfold f_mixFollow0
  refine (congrArg (fun x=>bnd x _) (idx_fold (step:=fun x=>s_mixFollow0_0 x.1 x.2.1 x.2.2.1 x.2.2.2.1) (c:=c0) (fin:=fun _=>()) (fun p l n i h=>s_mf0 p l n i h) (fun p l n i h=>by
    show s_mixFollow0_0 p l n i=_
    unfold s_mixFollow0_0
    have h1:ltI i n=false:=by grind
    rw [h1]
    rfl) l hl (u_mixFollow0_0 (Z0 p) l (l.length:Int) 0) 0 (Z0 p) (Nat.zero_le _) (by unfold u_mixFollow0_0;omega))).trans ?_
  rw [List.drop_zero]
  exact bnd_bnd _ _ _
theorem law0 (log:List MCall) (hl:log.length≤1000) (hi:∀ a∈log,-9223372036854775808≤a.index) (k:Nat):∃ x y:List Bs,gOut0 (log.take k)=some ((x,()),())∧gOut0 log=some ((y,()),())∧LawR 0 x y∧x.length=0∧y.length=0:=by
  have hJ:J0 (Z0 ()):=by
    unfold J0
    try unfold Z0
    trivial
  obtain ⟨q,eq,hq,hRq⟩:=foldC_tt t_c0 R0_refl R0_trans (log.take k) _ hJ (fun a h=>hi a (List.mem_of_mem_take h))
  obtain ⟨r,er,hr,hR⟩:=foldC_tt t_c0 R0_refl R0_trans (log.drop k) q hq (fun a h=>hi a (List.mem_of_mem_drop h))
  have ea:foldC c0 (Z0 ()) log=some r:=by
    have:foldC c0 (Z0 ()) (log.take k++log.drop k)=some r:=by rw [foldC_app,eq,bnd_ret];exact er
    rwa [List.take_append_drop] at this
  refine ⟨o0 q,o0 r,?_,?_,?_,rfl,rfl⟩
  · unfold gOut0
    refine ?_
    rw [fol0 _ _ (by simp;omega),eq]
    show (some (([],()),()):Option ((List Bs × Unit) × Unit))=_
    rfl
  · unfold gOut0
    refine ?_
    rw [fol0 _ _ hl,ea]
    show (some (([],()),()):Option ((List Bs × Unit) × Unit))=_
    rfl
  · exact trivial
noncomputable def Z1 (p:(Solo × Unit)):(Solo × Unit):=(p.1,())
noncomputable def o1 (q:(Solo × Unit)):List Bs:=[q.1.out]
theorem fol1 (p:(Solo × Unit)) (l:List MCall) (hl:l.length≤1000):f_mixFollow1 p l=bnd (foldC c1 (Z1 p) l) fun q=>some ((),(Z1 q,())):=by
  unfold f_mixFollow1
  refine (congrArg (fun x=>bnd x _) (idx_fold (step:=fun x=>s_mixFollow1_0 x.1 x.2.1 x.2.2.1 x.2.2.2.1) (c:=c1) (fin:=fun q=>(Z1 q,())) (fun p l n i h=>s_mf1 p l n i h) (fun p l n i h=>by
    show s_mixFollow1_0 p l n i=_
    unfold s_mixFollow1_0
    have h1:ltI i n=false:=by grind
    rw [h1]
    rfl) l hl (u_mixFollow1_0 (Z1 p) l (l.length:Int) 0) 0 (Z1 p) (Nat.zero_le _) (by unfold u_mixFollow1_0;omega))).trans ?_
  rw [List.drop_zero]
  exact bnd_bnd _ _ _
theorem law1 (b0:Bs) (h0:b0.length≤3000) (log:List MCall) (hl:log.length≤1000) (hi:∀ a∈log,-9223372036854775808≤a.index) (k:Nat):∃ x y:List Bs,gOut1 b0 (log.take k)=some ((x,()),())∧gOut1 b0 log=some ((y,()),())∧LawR 0 x y∧x.length=1∧y.length=1:=by
  have z0:(Engine.mk [] 0).count=0:=rfl
  obtain ⟨s0,hs0,e0⟩:=gSt_eq ⟨[],0⟩ 0 b0 (by simp) (by omega) h0
  have hJ:J1 (Z1 (s0,())):=by
    unfold J1
    try unfold Z1
    try simp only [wE,zE] at *
    grind
  obtain ⟨q,eq,hq,hRq⟩:=foldC_tt t_c1 R1_refl R1_trans (log.take k) _ hJ (fun a h=>hi a (List.mem_of_mem_take h))
  obtain ⟨r,er,hr,hR⟩:=foldC_tt t_c1 R1_refl R1_trans (log.drop k) q hq (fun a h=>hi a (List.mem_of_mem_drop h))
  have ea:foldC c1 (Z1 (s0,())) log=some r:=by
    have:foldC c1 (Z1 (s0,())) (log.take k++log.drop k)=some r:=by rw [foldC_app,eq,bnd_ret];exact er
    rwa [List.take_append_drop] at this
  have soq0:SoR q.1:=by unfold J1 at hq;exact hq.1
  have idq0:q.1.id=0:=by unfold J1 at hq;exact hq.2.1
  have sor0:SoR r.1:=by unfold J1 at hr;exact hr.1
  have idr0:r.1.id=0:=by unfold J1 at hr;exact hr.2.1
  refine ⟨o1 q,o1 r,?_,?_,?_,rfl,rfl⟩
  · unfold gOut1
    refine (e0 _).trans (?_)
    rw [fol1 _ _ (by simp;omega),eq]
    show (bnd (f_soOut ((Z1 q).1)) fun o0=>some (([o0.1.1],()),()):Option ((List Bs × Unit) × Unit))=_
    rw [soOut_eq ((Z1 q).1) (show SoR ((Z1 q).1) from soq0),bnd_ret]
    rfl
  · unfold gOut1
    refine (e0 _).trans (?_)
    rw [fol1 _ _ hl,ea]
    show (bnd (f_soOut ((Z1 r).1)) fun o0=>some (([o0.1.1],()),()):Option ((List Bs × Unit) × Unit))=_
    rw [soOut_eq ((Z1 r).1) (show SoR ((Z1 r).1) from sor0),bnd_ret]
    rfl
  · exact ⟨hR,(by have h:=SoR_first soq0;rw [idq0] at h;exact h),trivial⟩
noncomputable def Z2 (p:(Solo × (Solo × Unit))):(Solo × (Solo × Unit)):=(p.1,(zE p.2.1,()))
noncomputable def o2 (q:(Solo × (Solo × Unit))):List Bs:=[q.1.out,q.2.1.out]
theorem fol2 (p:(Solo × (Solo × Unit))) (l:List MCall) (hl:l.length≤1000):f_mixFollow2 p l=bnd (foldC c2 (Z2 p) l) fun q=>some ((),(Z2 q,())):=by
  unfold f_mixFollow2
  refine (congrArg (fun x=>bnd x _) (idx_fold (step:=fun x=>s_mixFollow2_0 x.1 x.2.1 x.2.2.1 x.2.2.2.1) (c:=c2) (fin:=fun q=>(Z2 q,())) (fun p l n i h=>s_mf2 p l n i h) (fun p l n i h=>by
    show s_mixFollow2_0 p l n i=_
    unfold s_mixFollow2_0
    have h1:ltI i n=false:=by grind
    rw [h1]
    rfl) l hl (u_mixFollow2_0 (Z2 p) l (l.length:Int) 0) 0 (Z2 p) (Nat.zero_le _) (by unfold u_mixFollow2_0;omega))).trans ?_
  rw [List.drop_zero]
  exact bnd_bnd _ _ _
theorem law2 (b0:Bs) (b1:Bs) (h0:b0.length≤3000) (h1:b1.length≤3000) (log:List MCall) (hl:log.length≤1000) (hi:∀ a∈log,-9223372036854775808≤a.index) (k:Nat):∃ x y:List Bs,gOut2 b0 b1 (log.take k)=some ((x,()),())∧gOut2 b0 b1 log=some ((y,()),())∧LawR 0 x y∧x.length=2∧y.length=2:=by
  have z0:(Engine.mk [] 0).count=0:=rfl
  obtain ⟨s0,hs0,e0⟩:=gSt_eq ⟨[],0⟩ 0 b0 (by simp) (by omega) h0
  obtain ⟨s1,hs1,e1⟩:=gSt_eq s0.se.engine 1 b1 (by omega) (by omega) h1
  have hJ:J2 (Z2 (wE s0 s1.se.engine,(zE s1,()))):=by
    unfold J2
    try unfold Z2
    try simp only [wE,zE] at *
    grind
  obtain ⟨q,eq,hq,hRq⟩:=foldC_tt t_c2 R2_refl R2_trans (log.take k) _ hJ (fun a h=>hi a (List.mem_of_mem_take h))
  obtain ⟨r,er,hr,hR⟩:=foldC_tt t_c2 R2_refl R2_trans (log.drop k) q hq (fun a h=>hi a (List.mem_of_mem_drop h))
  have ea:foldC c2 (Z2 (wE s0 s1.se.engine,(zE s1,()))) log=some r:=by
    have:foldC c2 (Z2 (wE s0 s1.se.engine,(zE s1,()))) (log.take k++log.drop k)=some r:=by rw [foldC_app,eq,bnd_ret];exact er
    rwa [List.take_append_drop] at this
  have soq0:SoR q.1:=by unfold J2 at hq;exact hq.1
  have idq0:q.1.id=0:=by unfold J2 at hq;exact hq.2.1
  have soq1:SoR q.2.1:=by unfold J2 at hq;exact hq.2.2.1
  have idq1:q.2.1.id=1:=by unfold J2 at hq;exact hq.2.2.2.1
  have sor0:SoR r.1:=by unfold J2 at hr;exact hr.1
  have idr0:r.1.id=0:=by unfold J2 at hr;exact hr.2.1
  have sor1:SoR r.2.1:=by unfold J2 at hr;exact hr.2.2.1
  have idr1:r.2.1.id=1:=by unfold J2 at hr;exact hr.2.2.2.1
  refine ⟨o2 q,o2 r,?_,?_,?_,rfl,rfl⟩
  · unfold gOut2
    refine (e0 _).trans ((e1 _).trans (?_))
    rw [fol2 _ _ (by simp;omega),eq]
    show (bnd (f_soOut ((Z2 q).1)) fun o0=>bnd (f_soOut (wE ((Z2 q).2.1) o0.2.1.se.engine)) fun o1=>some (([o0.1.1,o1.1.1],()),()):Option ((List Bs × Unit) × Unit))=_
    rw [soOut_eq ((Z2 q).1) (show SoR ((Z2 q).1) from soq0),bnd_ret,soOut_eq (wE ((Z2 q).2.1) ((Z2 q).1).se.engine) (show SoR (wE ((Z2 q).2.1) ((Z2 q).1).se.engine) from soq1),bnd_ret]
    rfl
  · unfold gOut2
    refine (e0 _).trans ((e1 _).trans (?_))
    rw [fol2 _ _ hl,ea]
    show (bnd (f_soOut ((Z2 r).1)) fun o0=>bnd (f_soOut (wE ((Z2 r).2.1) o0.2.1.se.engine)) fun o1=>some (([o0.1.1,o1.1.1],()),()):Option ((List Bs × Unit) × Unit))=_
    rw [soOut_eq ((Z2 r).1) (show SoR ((Z2 r).1) from sor0),bnd_ret,soOut_eq (wE ((Z2 r).2.1) ((Z2 r).1).se.engine) (show SoR (wE ((Z2 r).2.1) ((Z2 r).1).se.engine) from sor1),bnd_ret]
    rfl
  · exact ⟨hR.1,(by have h:=SoR_first soq0;rw [idq0] at h;exact h),⟨hR.2,(by have h:=SoR_first soq1;rw [idq1] at h;exact h),trivial⟩⟩
noncomputable def Z3 (p:(Solo × (Solo × (Solo × Unit)))):(Solo × (Solo × (Solo × Unit))):=(p.1,(zE p.2.1,(zE p.2.2.1,())))
noncomputable def o3 (q:(Solo × (Solo × (Solo × Unit)))):List Bs:=[q.1.out,q.2.1.out,q.2.2.1.out]
theorem fol3 (p:(Solo × (Solo × (Solo × Unit)))) (l:List MCall) (hl:l.length≤1000):f_mixFollow3 p l=bnd (foldC c3 (Z3 p) l) fun q=>some ((),(Z3 q,())):=by
  unfold f_mixFollow3
  refine (congrArg (fun x=>bnd x _) (idx_fold (step:=fun x=>s_mixFollow3_0 x.1 x.2.1 x.2.2.1 x.2.2.2.1) (c:=c3) (fin:=fun q=>(Z3 q,())) (fun p l n i h=>s_mf3 p l n i h) (fun p l n i h=>by
    show s_mixFollow3_0 p l n i=_
    unfold s_mixFollow3_0
    have h1:ltI i n=false:=by grind
    rw [h1]
    rfl) l hl (u_mixFollow3_0 (Z3 p) l (l.length:Int) 0) 0 (Z3 p) (Nat.zero_le _) (by unfold u_mixFollow3_0;omega))).trans ?_
  rw [List.drop_zero]
  exact bnd_bnd _ _ _
theorem law3 (b0:Bs) (b1:Bs) (b2:Bs) (h0:b0.length≤3000) (h1:b1.length≤3000) (h2:b2.length≤3000) (log:List MCall) (hl:log.length≤1000) (hi:∀ a∈log,-9223372036854775808≤a.index) (k:Nat):∃ x y:List Bs,gOut3 b0 b1 b2 (log.take k)=some ((x,()),())∧gOut3 b0 b1 b2 log=some ((y,()),())∧LawR 0 x y∧x.length=3∧y.length=3:=by
  have z0:(Engine.mk [] 0).count=0:=rfl
  obtain ⟨s0,hs0,e0⟩:=gSt_eq ⟨[],0⟩ 0 b0 (by simp) (by omega) h0
  obtain ⟨s1,hs1,e1⟩:=gSt_eq s0.se.engine 1 b1 (by omega) (by omega) h1
  obtain ⟨s2,hs2,e2⟩:=gSt_eq s1.se.engine 2 b2 (by omega) (by omega) h2
  have hJ:J3 (Z3 (wE s0 s2.se.engine,(zE s1,(zE s2,())))):=by
    unfold J3
    try unfold Z3
    try simp only [wE,zE] at *
    grind
  obtain ⟨q,eq,hq,hRq⟩:=foldC_tt t_c3 R3_refl R3_trans (log.take k) _ hJ (fun a h=>hi a (List.mem_of_mem_take h))
  obtain ⟨r,er,hr,hR⟩:=foldC_tt t_c3 R3_refl R3_trans (log.drop k) q hq (fun a h=>hi a (List.mem_of_mem_drop h))
  have ea:foldC c3 (Z3 (wE s0 s2.se.engine,(zE s1,(zE s2,())))) log=some r:=by
    have:foldC c3 (Z3 (wE s0 s2.se.engine,(zE s1,(zE s2,())))) (log.take k++log.drop k)=some r:=by rw [foldC_app,eq,bnd_ret];exact er
    rwa [List.take_append_drop] at this
  have soq0:SoR q.1:=by unfold J3 at hq;exact hq.1
  have idq0:q.1.id=0:=by unfold J3 at hq;exact hq.2.1
  have soq1:SoR q.2.1:=by unfold J3 at hq;exact hq.2.2.1
  have idq1:q.2.1.id=1:=by unfold J3 at hq;exact hq.2.2.2.1
  have soq2:SoR q.2.2.1:=by unfold J3 at hq;exact hq.2.2.2.2.1
  have idq2:q.2.2.1.id=2:=by unfold J3 at hq;exact hq.2.2.2.2.2.1
  have sor0:SoR r.1:=by unfold J3 at hr;exact hr.1
  have idr0:r.1.id=0:=by unfold J3 at hr;exact hr.2.1
  have sor1:SoR r.2.1:=by unfold J3 at hr;exact hr.2.2.1
  have idr1:r.2.1.id=1:=by unfold J3 at hr;exact hr.2.2.2.1
  have sor2:SoR r.2.2.1:=by unfold J3 at hr;exact hr.2.2.2.2.1
  have idr2:r.2.2.1.id=2:=by unfold J3 at hr;exact hr.2.2.2.2.2.1
  refine ⟨o3 q,o3 r,?_,?_,?_,rfl,rfl⟩
  · unfold gOut3
    refine (e0 _).trans ((e1 _).trans ((e2 _).trans (?_)))
    rw [fol3 _ _ (by simp;omega),eq]
    show (bnd (f_soOut ((Z3 q).1)) fun o0=>bnd (f_soOut (wE ((Z3 q).2.1) o0.2.1.se.engine)) fun o1=>bnd (f_soOut (wE ((Z3 q).2.2.1) o1.2.1.se.engine)) fun o2=>some (([o0.1.1,o1.1.1,o2.1.1],()),()):Option ((List Bs × Unit) × Unit))=_
    rw [soOut_eq ((Z3 q).1) (show SoR ((Z3 q).1) from soq0),bnd_ret,soOut_eq (wE ((Z3 q).2.1) ((Z3 q).1).se.engine) (show SoR (wE ((Z3 q).2.1) ((Z3 q).1).se.engine) from soq1),bnd_ret,soOut_eq (wE ((Z3 q).2.2.1) (wE ((Z3 q).2.1) ((Z3 q).1).se.engine).se.engine) (show SoR (wE ((Z3 q).2.2.1) (wE ((Z3 q).2.1) ((Z3 q).1).se.engine).se.engine) from soq2),bnd_ret]
    rfl
  · unfold gOut3
    refine (e0 _).trans ((e1 _).trans ((e2 _).trans (?_)))
    rw [fol3 _ _ hl,ea]
    show (bnd (f_soOut ((Z3 r).1)) fun o0=>bnd (f_soOut (wE ((Z3 r).2.1) o0.2.1.se.engine)) fun o1=>bnd (f_soOut (wE ((Z3 r).2.2.1) o1.2.1.se.engine)) fun o2=>some (([o0.1.1,o1.1.1,o2.1.1],()),()):Option ((List Bs × Unit) × Unit))=_
    rw [soOut_eq ((Z3 r).1) (show SoR ((Z3 r).1) from sor0),bnd_ret,soOut_eq (wE ((Z3 r).2.1) ((Z3 r).1).se.engine) (show SoR (wE ((Z3 r).2.1) ((Z3 r).1).se.engine) from sor1),bnd_ret,soOut_eq (wE ((Z3 r).2.2.1) (wE ((Z3 r).2.1) ((Z3 r).1).se.engine).se.engine) (show SoR (wE ((Z3 r).2.2.1) (wE ((Z3 r).2.1) ((Z3 r).1).se.engine).se.engine) from sor2),bnd_ret]
    rfl
  · exact ⟨hR.1,(by have h:=SoR_first soq0;rw [idq0] at h;exact h),⟨hR.2.1,(by have h:=SoR_first soq1;rw [idq1] at h;exact h),⟨hR.2.2,(by have h:=SoR_first soq2;rw [idq2] at h;exact h),trivial⟩⟩⟩
noncomputable def Z4 (p:(Solo × (Solo × (Solo × (Solo × Unit))))):(Solo × (Solo × (Solo × (Solo × Unit)))):=(p.1,(zE p.2.1,(zE p.2.2.1,(zE p.2.2.2.1,()))))
noncomputable def o4 (q:(Solo × (Solo × (Solo × (Solo × Unit))))):List Bs:=[q.1.out,q.2.1.out,q.2.2.1.out,q.2.2.2.1.out]
theorem fol4 (p:(Solo × (Solo × (Solo × (Solo × Unit))))) (l:List MCall) (hl:l.length≤1000):f_mixFollow4 p l=bnd (foldC c4 (Z4 p) l) fun q=>some ((),(Z4 q,())):=by
  unfold f_mixFollow4
  refine (congrArg (fun x=>bnd x _) (idx_fold (step:=fun x=>s_mixFollow4_0 x.1 x.2.1 x.2.2.1 x.2.2.2.1) (c:=c4) (fin:=fun q=>(Z4 q,())) (fun p l n i h=>s_mf4 p l n i h) (fun p l n i h=>by
    show s_mixFollow4_0 p l n i=_
    unfold s_mixFollow4_0
    have h1:ltI i n=false:=by grind
    rw [h1]
    rfl) l hl (u_mixFollow4_0 (Z4 p) l (l.length:Int) 0) 0 (Z4 p) (Nat.zero_le _) (by unfold u_mixFollow4_0;omega))).trans ?_
  rw [List.drop_zero]
  exact bnd_bnd _ _ _
theorem law4 (b0:Bs) (b1:Bs) (b2:Bs) (b3:Bs) (h0:b0.length≤3000) (h1:b1.length≤3000) (h2:b2.length≤3000) (h3:b3.length≤3000) (log:List MCall) (hl:log.length≤1000) (hi:∀ a∈log,-9223372036854775808≤a.index) (k:Nat):∃ x y:List Bs,gOut4 b0 b1 b2 b3 (log.take k)=some ((x,()),())∧gOut4 b0 b1 b2 b3 log=some ((y,()),())∧LawR 0 x y∧x.length=4∧y.length=4:=by
  have z0:(Engine.mk [] 0).count=0:=rfl
  obtain ⟨s0,hs0,e0⟩:=gSt_eq ⟨[],0⟩ 0 b0 (by simp) (by omega) h0
  obtain ⟨s1,hs1,e1⟩:=gSt_eq s0.se.engine 1 b1 (by omega) (by omega) h1
  obtain ⟨s2,hs2,e2⟩:=gSt_eq s1.se.engine 2 b2 (by omega) (by omega) h2
  obtain ⟨s3,hs3,e3⟩:=gSt_eq s2.se.engine 3 b3 (by omega) (by omega) h3
  have hJ:J4 (Z4 (wE s0 s3.se.engine,(zE s1,(zE s2,(zE s3,()))))):=by
    unfold J4
    try unfold Z4
    try simp only [wE,zE] at *
    grind
  obtain ⟨q,eq,hq,hRq⟩:=foldC_tt t_c4 R4_refl R4_trans (log.take k) _ hJ (fun a h=>hi a (List.mem_of_mem_take h))
  obtain ⟨r,er,hr,hR⟩:=foldC_tt t_c4 R4_refl R4_trans (log.drop k) q hq (fun a h=>hi a (List.mem_of_mem_drop h))
  have ea:foldC c4 (Z4 (wE s0 s3.se.engine,(zE s1,(zE s2,(zE s3,()))))) log=some r:=by
    have:foldC c4 (Z4 (wE s0 s3.se.engine,(zE s1,(zE s2,(zE s3,()))))) (log.take k++log.drop k)=some r:=by rw [foldC_app,eq,bnd_ret];exact er
    rwa [List.take_append_drop] at this
  have soq0:SoR q.1:=by unfold J4 at hq;exact hq.1
  have idq0:q.1.id=0:=by unfold J4 at hq;exact hq.2.1
  have soq1:SoR q.2.1:=by unfold J4 at hq;exact hq.2.2.1
  have idq1:q.2.1.id=1:=by unfold J4 at hq;exact hq.2.2.2.1
  have soq2:SoR q.2.2.1:=by unfold J4 at hq;exact hq.2.2.2.2.1
  have idq2:q.2.2.1.id=2:=by unfold J4 at hq;exact hq.2.2.2.2.2.1
  have soq3:SoR q.2.2.2.1:=by unfold J4 at hq;exact hq.2.2.2.2.2.2.1
  have idq3:q.2.2.2.1.id=3:=by unfold J4 at hq;exact hq.2.2.2.2.2.2.2.1
  have sor0:SoR r.1:=by unfold J4 at hr;exact hr.1
  have idr0:r.1.id=0:=by unfold J4 at hr;exact hr.2.1
  have sor1:SoR r.2.1:=by unfold J4 at hr;exact hr.2.2.1
  have idr1:r.2.1.id=1:=by unfold J4 at hr;exact hr.2.2.2.1
  have sor2:SoR r.2.2.1:=by unfold J4 at hr;exact hr.2.2.2.2.1
  have idr2:r.2.2.1.id=2:=by unfold J4 at hr;exact hr.2.2.2.2.2.1
  have sor3:SoR r.2.2.2.1:=by unfold J4 at hr;exact hr.2.2.2.2.2.2.1
  have idr3:r.2.2.2.1.id=3:=by unfold J4 at hr;exact hr.2.2.2.2.2.2.2.1
  refine ⟨o4 q,o4 r,?_,?_,?_,rfl,rfl⟩
  · unfold gOut4
    refine (e0 _).trans ((e1 _).trans ((e2 _).trans ((e3 _).trans (?_))))
    rw [fol4 _ _ (by simp;omega),eq]
    show (bnd (f_soOut ((Z4 q).1)) fun o0=>bnd (f_soOut (wE ((Z4 q).2.1) o0.2.1.se.engine)) fun o1=>bnd (f_soOut (wE ((Z4 q).2.2.1) o1.2.1.se.engine)) fun o2=>bnd (f_soOut (wE ((Z4 q).2.2.2.1) o2.2.1.se.engine)) fun o3=>some (([o0.1.1,o1.1.1,o2.1.1,o3.1.1],()),()):Option ((List Bs × Unit) × Unit))=_
    rw [soOut_eq ((Z4 q).1) (show SoR ((Z4 q).1) from soq0),bnd_ret,soOut_eq (wE ((Z4 q).2.1) ((Z4 q).1).se.engine) (show SoR (wE ((Z4 q).2.1) ((Z4 q).1).se.engine) from soq1),bnd_ret,soOut_eq (wE ((Z4 q).2.2.1) (wE ((Z4 q).2.1) ((Z4 q).1).se.engine).se.engine) (show SoR (wE ((Z4 q).2.2.1) (wE ((Z4 q).2.1) ((Z4 q).1).se.engine).se.engine) from soq2),bnd_ret,soOut_eq (wE ((Z4 q).2.2.2.1) (wE ((Z4 q).2.2.1) (wE ((Z4 q).2.1) ((Z4 q).1).se.engine).se.engine).se.engine) (show SoR (wE ((Z4 q).2.2.2.1) (wE ((Z4 q).2.2.1) (wE ((Z4 q).2.1) ((Z4 q).1).se.engine).se.engine).se.engine) from soq3),bnd_ret]
    rfl
  · unfold gOut4
    refine (e0 _).trans ((e1 _).trans ((e2 _).trans ((e3 _).trans (?_))))
    rw [fol4 _ _ hl,ea]
    show (bnd (f_soOut ((Z4 r).1)) fun o0=>bnd (f_soOut (wE ((Z4 r).2.1) o0.2.1.se.engine)) fun o1=>bnd (f_soOut (wE ((Z4 r).2.2.1) o1.2.1.se.engine)) fun o2=>bnd (f_soOut (wE ((Z4 r).2.2.2.1) o2.2.1.se.engine)) fun o3=>some (([o0.1.1,o1.1.1,o2.1.1,o3.1.1],()),()):Option ((List Bs × Unit) × Unit))=_
    rw [soOut_eq ((Z4 r).1) (show SoR ((Z4 r).1) from sor0),bnd_ret,soOut_eq (wE ((Z4 r).2.1) ((Z4 r).1).se.engine) (show SoR (wE ((Z4 r).2.1) ((Z4 r).1).se.engine) from sor1),bnd_ret,soOut_eq (wE ((Z4 r).2.2.1) (wE ((Z4 r).2.1) ((Z4 r).1).se.engine).se.engine) (show SoR (wE ((Z4 r).2.2.1) (wE ((Z4 r).2.1) ((Z4 r).1).se.engine).se.engine) from sor2),bnd_ret,soOut_eq (wE ((Z4 r).2.2.2.1) (wE ((Z4 r).2.2.1) (wE ((Z4 r).2.1) ((Z4 r).1).se.engine).se.engine).se.engine) (show SoR (wE ((Z4 r).2.2.2.1) (wE ((Z4 r).2.2.1) (wE ((Z4 r).2.1) ((Z4 r).1).se.engine).se.engine).se.engine) from sor3),bnd_ret]
    rfl
  · exact ⟨hR.1,(by have h:=SoR_first soq0;rw [idq0] at h;exact h),⟨hR.2.1,(by have h:=SoR_first soq1;rw [idq1] at h;exact h),⟨hR.2.2.1,(by have h:=SoR_first soq2;rw [idq2] at h;exact h),⟨hR.2.2.2,(by have h:=SoR_first soq3;rw [idq3] at h;exact h),trivial⟩⟩⟩⟩
noncomputable def Z5 (p:(Solo × (Solo × (Solo × (Solo × (Solo × Unit)))))):(Solo × (Solo × (Solo × (Solo × (Solo × Unit))))):=(p.1,(zE p.2.1,(zE p.2.2.1,(zE p.2.2.2.1,(zE p.2.2.2.2.1,())))))
noncomputable def o5 (q:(Solo × (Solo × (Solo × (Solo × (Solo × Unit)))))):List Bs:=[q.1.out,q.2.1.out,q.2.2.1.out,q.2.2.2.1.out,q.2.2.2.2.1.out]
theorem fol5 (p:(Solo × (Solo × (Solo × (Solo × (Solo × Unit)))))) (l:List MCall) (hl:l.length≤1000):f_mixFollow5 p l=bnd (foldC c5 (Z5 p) l) fun q=>some ((),(Z5 q,())):=by
  unfold f_mixFollow5
  refine (congrArg (fun x=>bnd x _) (idx_fold (step:=fun x=>s_mixFollow5_0 x.1 x.2.1 x.2.2.1 x.2.2.2.1) (c:=c5) (fin:=fun q=>(Z5 q,())) (fun p l n i h=>s_mf5 p l n i h) (fun p l n i h=>by
    show s_mixFollow5_0 p l n i=_
    unfold s_mixFollow5_0
    have h1:ltI i n=false:=by grind
    rw [h1]
    rfl) l hl (u_mixFollow5_0 (Z5 p) l (l.length:Int) 0) 0 (Z5 p) (Nat.zero_le _) (by unfold u_mixFollow5_0;omega))).trans ?_
  rw [List.drop_zero]
  exact bnd_bnd _ _ _
theorem law5 (b0:Bs) (b1:Bs) (b2:Bs) (b3:Bs) (b4:Bs) (h0:b0.length≤3000) (h1:b1.length≤3000) (h2:b2.length≤3000) (h3:b3.length≤3000) (h4:b4.length≤3000) (log:List MCall) (hl:log.length≤1000) (hi:∀ a∈log,-9223372036854775808≤a.index) (k:Nat):∃ x y:List Bs,gOut5 b0 b1 b2 b3 b4 (log.take k)=some ((x,()),())∧gOut5 b0 b1 b2 b3 b4 log=some ((y,()),())∧LawR 0 x y∧x.length=5∧y.length=5:=by
  have z0:(Engine.mk [] 0).count=0:=rfl
  obtain ⟨s0,hs0,e0⟩:=gSt_eq ⟨[],0⟩ 0 b0 (by simp) (by omega) h0
  obtain ⟨s1,hs1,e1⟩:=gSt_eq s0.se.engine 1 b1 (by omega) (by omega) h1
  obtain ⟨s2,hs2,e2⟩:=gSt_eq s1.se.engine 2 b2 (by omega) (by omega) h2
  obtain ⟨s3,hs3,e3⟩:=gSt_eq s2.se.engine 3 b3 (by omega) (by omega) h3
  obtain ⟨s4,hs4,e4⟩:=gSt_eq s3.se.engine 4 b4 (by omega) (by omega) h4
  have hJ:J5 (Z5 (wE s0 s4.se.engine,(zE s1,(zE s2,(zE s3,(zE s4,())))))):=by
    unfold J5
    try unfold Z5
    try simp only [wE,zE] at *
    grind
  obtain ⟨q,eq,hq,hRq⟩:=foldC_tt t_c5 R5_refl R5_trans (log.take k) _ hJ (fun a h=>hi a (List.mem_of_mem_take h))
  obtain ⟨r,er,hr,hR⟩:=foldC_tt t_c5 R5_refl R5_trans (log.drop k) q hq (fun a h=>hi a (List.mem_of_mem_drop h))
  have ea:foldC c5 (Z5 (wE s0 s4.se.engine,(zE s1,(zE s2,(zE s3,(zE s4,())))))) log=some r:=by
    have:foldC c5 (Z5 (wE s0 s4.se.engine,(zE s1,(zE s2,(zE s3,(zE s4,())))))) (log.take k++log.drop k)=some r:=by rw [foldC_app,eq,bnd_ret];exact er
    rwa [List.take_append_drop] at this
  have soq0:SoR q.1:=by unfold J5 at hq;exact hq.1
  have idq0:q.1.id=0:=by unfold J5 at hq;exact hq.2.1
  have soq1:SoR q.2.1:=by unfold J5 at hq;exact hq.2.2.1
  have idq1:q.2.1.id=1:=by unfold J5 at hq;exact hq.2.2.2.1
  have soq2:SoR q.2.2.1:=by unfold J5 at hq;exact hq.2.2.2.2.1
  have idq2:q.2.2.1.id=2:=by unfold J5 at hq;exact hq.2.2.2.2.2.1
  have soq3:SoR q.2.2.2.1:=by unfold J5 at hq;exact hq.2.2.2.2.2.2.1
  have idq3:q.2.2.2.1.id=3:=by unfold J5 at hq;exact hq.2.2.2.2.2.2.2.1
  have soq4:SoR q.2.2.2.2.1:=by unfold J5 at hq;exact hq.2.2.2.2.2.2.2.2.1
  have idq4:q.2.2.2.2.1.id=4:=by unfold J5 at hq;exact hq.2.2.2.2.2.2.2.2.2.1
  have sor0:SoR r.1:=by unfold J5 at hr;exact hr.1
  have idr0:r.1.id=0:=by unfold J5 at hr;exact hr.2.1
  have sor1:SoR r.2.1:=by unfold J5 at hr;exact hr.2.2.1
  have idr1:r.2.1.id=1:=by unfold J5 at hr;exact hr.2.2.2.1
  have sor2:SoR r.2.2.1:=by unfold J5 at hr;exact hr.2.2.2.2.1
  have idr2:r.2.2.1.id=2:=by unfold J5 at hr;exact hr.2.2.2.2.2.1
  have sor3:SoR r.2.2.2.1:=by unfold J5 at hr;exact hr.2.2.2.2.2.2.1
  have idr3:r.2.2.2.1.id=3:=by unfold J5 at hr;exact hr.2.2.2.2.2.2.2.1
  have sor4:SoR r.2.2.2.2.1:=by unfold J5 at hr;exact hr.2.2.2.2.2.2.2.2.1
  have idr4:r.2.2.2.2.1.id=4:=by unfold J5 at hr;exact hr.2.2.2.2.2.2.2.2.2.1
  refine ⟨o5 q,o5 r,?_,?_,?_,rfl,rfl⟩
  · unfold gOut5
    refine (e0 _).trans ((e1 _).trans ((e2 _).trans ((e3 _).trans ((e4 _).trans (?_)))))
    rw [fol5 _ _ (by simp;omega),eq]
    show (bnd (f_soOut ((Z5 q).1)) fun o0=>bnd (f_soOut (wE ((Z5 q).2.1) o0.2.1.se.engine)) fun o1=>bnd (f_soOut (wE ((Z5 q).2.2.1) o1.2.1.se.engine)) fun o2=>bnd (f_soOut (wE ((Z5 q).2.2.2.1) o2.2.1.se.engine)) fun o3=>bnd (f_soOut (wE ((Z5 q).2.2.2.2.1) o3.2.1.se.engine)) fun o4=>some (([o0.1.1,o1.1.1,o2.1.1,o3.1.1,o4.1.1],()),()):Option ((List Bs × Unit) × Unit))=_
    rw [soOut_eq ((Z5 q).1) (show SoR ((Z5 q).1) from soq0),bnd_ret,soOut_eq (wE ((Z5 q).2.1) ((Z5 q).1).se.engine) (show SoR (wE ((Z5 q).2.1) ((Z5 q).1).se.engine) from soq1),bnd_ret,soOut_eq (wE ((Z5 q).2.2.1) (wE ((Z5 q).2.1) ((Z5 q).1).se.engine).se.engine) (show SoR (wE ((Z5 q).2.2.1) (wE ((Z5 q).2.1) ((Z5 q).1).se.engine).se.engine) from soq2),bnd_ret,soOut_eq (wE ((Z5 q).2.2.2.1) (wE ((Z5 q).2.2.1) (wE ((Z5 q).2.1) ((Z5 q).1).se.engine).se.engine).se.engine) (show SoR (wE ((Z5 q).2.2.2.1) (wE ((Z5 q).2.2.1) (wE ((Z5 q).2.1) ((Z5 q).1).se.engine).se.engine).se.engine) from soq3),bnd_ret,soOut_eq (wE ((Z5 q).2.2.2.2.1) (wE ((Z5 q).2.2.2.1) (wE ((Z5 q).2.2.1) (wE ((Z5 q).2.1) ((Z5 q).1).se.engine).se.engine).se.engine).se.engine) (show SoR (wE ((Z5 q).2.2.2.2.1) (wE ((Z5 q).2.2.2.1) (wE ((Z5 q).2.2.1) (wE ((Z5 q).2.1) ((Z5 q).1).se.engine).se.engine).se.engine).se.engine) from soq4),bnd_ret]
    rfl
  · unfold gOut5
    refine (e0 _).trans ((e1 _).trans ((e2 _).trans ((e3 _).trans ((e4 _).trans (?_)))))
    rw [fol5 _ _ hl,ea]
    show (bnd (f_soOut ((Z5 r).1)) fun o0=>bnd (f_soOut (wE ((Z5 r).2.1) o0.2.1.se.engine)) fun o1=>bnd (f_soOut (wE ((Z5 r).2.2.1) o1.2.1.se.engine)) fun o2=>bnd (f_soOut (wE ((Z5 r).2.2.2.1) o2.2.1.se.engine)) fun o3=>bnd (f_soOut (wE ((Z5 r).2.2.2.2.1) o3.2.1.se.engine)) fun o4=>some (([o0.1.1,o1.1.1,o2.1.1,o3.1.1,o4.1.1],()),()):Option ((List Bs × Unit) × Unit))=_
    rw [soOut_eq ((Z5 r).1) (show SoR ((Z5 r).1) from sor0),bnd_ret,soOut_eq (wE ((Z5 r).2.1) ((Z5 r).1).se.engine) (show SoR (wE ((Z5 r).2.1) ((Z5 r).1).se.engine) from sor1),bnd_ret,soOut_eq (wE ((Z5 r).2.2.1) (wE ((Z5 r).2.1) ((Z5 r).1).se.engine).se.engine) (show SoR (wE ((Z5 r).2.2.1) (wE ((Z5 r).2.1) ((Z5 r).1).se.engine).se.engine) from sor2),bnd_ret,soOut_eq (wE ((Z5 r).2.2.2.1) (wE ((Z5 r).2.2.1) (wE ((Z5 r).2.1) ((Z5 r).1).se.engine).se.engine).se.engine) (show SoR (wE ((Z5 r).2.2.2.1) (wE ((Z5 r).2.2.1) (wE ((Z5 r).2.1) ((Z5 r).1).se.engine).se.engine).se.engine) from sor3),bnd_ret,soOut_eq (wE ((Z5 r).2.2.2.2.1) (wE ((Z5 r).2.2.2.1) (wE ((Z5 r).2.2.1) (wE ((Z5 r).2.1) ((Z5 r).1).se.engine).se.engine).se.engine).se.engine) (show SoR (wE ((Z5 r).2.2.2.2.1) (wE ((Z5 r).2.2.2.1) (wE ((Z5 r).2.2.1) (wE ((Z5 r).2.1) ((Z5 r).1).se.engine).se.engine).se.engine).se.engine) from sor4),bnd_ret]
    rfl
  · exact ⟨hR.1,(by have h:=SoR_first soq0;rw [idq0] at h;exact h),⟨hR.2.1,(by have h:=SoR_first soq1;rw [idq1] at h;exact h),⟨hR.2.2.1,(by have h:=SoR_first soq2;rw [idq2] at h;exact h),⟨hR.2.2.2.1,(by have h:=SoR_first soq3;rw [idq3] at h;exact h),⟨hR.2.2.2.2,(by have h:=SoR_first soq4;rw [idq4] at h;exact h),trivial⟩⟩⟩⟩⟩
noncomputable def Z6 (p:(Solo × (Solo × (Solo × (Solo × (Solo × (Solo × Unit))))))):(Solo × (Solo × (Solo × (Solo × (Solo × (Solo × Unit)))))):=(p.1,(zE p.2.1,(zE p.2.2.1,(zE p.2.2.2.1,(zE p.2.2.2.2.1,(zE p.2.2.2.2.2.1,()))))))
noncomputable def o6 (q:(Solo × (Solo × (Solo × (Solo × (Solo × (Solo × Unit))))))):List Bs:=[q.1.out,q.2.1.out,q.2.2.1.out,q.2.2.2.1.out,q.2.2.2.2.1.out,q.2.2.2.2.2.1.out]
theorem fol6 (p:(Solo × (Solo × (Solo × (Solo × (Solo × (Solo × Unit))))))) (l:List MCall) (hl:l.length≤1000):f_mixFollow6 p l=bnd (foldC c6 (Z6 p) l) fun q=>some ((),(Z6 q,())):=by
  unfold f_mixFollow6
  refine (congrArg (fun x=>bnd x _) (idx_fold (step:=fun x=>s_mixFollow6_0 x.1 x.2.1 x.2.2.1 x.2.2.2.1) (c:=c6) (fin:=fun q=>(Z6 q,())) (fun p l n i h=>s_mf6 p l n i h) (fun p l n i h=>by
    show s_mixFollow6_0 p l n i=_
    unfold s_mixFollow6_0
    have h1:ltI i n=false:=by grind
    rw [h1]
    rfl) l hl (u_mixFollow6_0 (Z6 p) l (l.length:Int) 0) 0 (Z6 p) (Nat.zero_le _) (by unfold u_mixFollow6_0;omega))).trans ?_
  rw [List.drop_zero]
  exact bnd_bnd _ _ _
theorem law6 (b0:Bs) (b1:Bs) (b2:Bs) (b3:Bs) (b4:Bs) (b5:Bs) (h0:b0.length≤3000) (h1:b1.length≤3000) (h2:b2.length≤3000) (h3:b3.length≤3000) (h4:b4.length≤3000) (h5:b5.length≤3000) (log:List MCall) (hl:log.length≤1000) (hi:∀ a∈log,-9223372036854775808≤a.index) (k:Nat):∃ x y:List Bs,gOut6 b0 b1 b2 b3 b4 b5 (log.take k)=some ((x,()),())∧gOut6 b0 b1 b2 b3 b4 b5 log=some ((y,()),())∧LawR 0 x y∧x.length=6∧y.length=6:=by
  have z0:(Engine.mk [] 0).count=0:=rfl
  obtain ⟨s0,hs0,e0⟩:=gSt_eq ⟨[],0⟩ 0 b0 (by simp) (by omega) h0
  obtain ⟨s1,hs1,e1⟩:=gSt_eq s0.se.engine 1 b1 (by omega) (by omega) h1
  obtain ⟨s2,hs2,e2⟩:=gSt_eq s1.se.engine 2 b2 (by omega) (by omega) h2
  obtain ⟨s3,hs3,e3⟩:=gSt_eq s2.se.engine 3 b3 (by omega) (by omega) h3
  obtain ⟨s4,hs4,e4⟩:=gSt_eq s3.se.engine 4 b4 (by omega) (by omega) h4
  obtain ⟨s5,hs5,e5⟩:=gSt_eq s4.se.engine 5 b5 (by omega) (by omega) h5
  have hJ:J6 (Z6 (wE s0 s5.se.engine,(zE s1,(zE s2,(zE s3,(zE s4,(zE s5,()))))))):=by
    unfold J6
    try unfold Z6
    try simp only [wE,zE] at *
    grind
  obtain ⟨q,eq,hq,hRq⟩:=foldC_tt t_c6 R6_refl R6_trans (log.take k) _ hJ (fun a h=>hi a (List.mem_of_mem_take h))
  obtain ⟨r,er,hr,hR⟩:=foldC_tt t_c6 R6_refl R6_trans (log.drop k) q hq (fun a h=>hi a (List.mem_of_mem_drop h))
  have ea:foldC c6 (Z6 (wE s0 s5.se.engine,(zE s1,(zE s2,(zE s3,(zE s4,(zE s5,()))))))) log=some r:=by
    have:foldC c6 (Z6 (wE s0 s5.se.engine,(zE s1,(zE s2,(zE s3,(zE s4,(zE s5,()))))))) (log.take k++log.drop k)=some r:=by rw [foldC_app,eq,bnd_ret];exact er
    rwa [List.take_append_drop] at this
  have soq0:SoR q.1:=by unfold J6 at hq;exact hq.1
  have idq0:q.1.id=0:=by unfold J6 at hq;exact hq.2.1
  have soq1:SoR q.2.1:=by unfold J6 at hq;exact hq.2.2.1
  have idq1:q.2.1.id=1:=by unfold J6 at hq;exact hq.2.2.2.1
  have soq2:SoR q.2.2.1:=by unfold J6 at hq;exact hq.2.2.2.2.1
  have idq2:q.2.2.1.id=2:=by unfold J6 at hq;exact hq.2.2.2.2.2.1
  have soq3:SoR q.2.2.2.1:=by unfold J6 at hq;exact hq.2.2.2.2.2.2.1
  have idq3:q.2.2.2.1.id=3:=by unfold J6 at hq;exact hq.2.2.2.2.2.2.2.1
  have soq4:SoR q.2.2.2.2.1:=by unfold J6 at hq;exact hq.2.2.2.2.2.2.2.2.1
  have idq4:q.2.2.2.2.1.id=4:=by unfold J6 at hq;exact hq.2.2.2.2.2.2.2.2.2.1
  have soq5:SoR q.2.2.2.2.2.1:=by unfold J6 at hq;exact hq.2.2.2.2.2.2.2.2.2.2.1
  have idq5:q.2.2.2.2.2.1.id=5:=by unfold J6 at hq;exact hq.2.2.2.2.2.2.2.2.2.2.2.1
  have sor0:SoR r.1:=by unfold J6 at hr;exact hr.1
  have idr0:r.1.id=0:=by unfold J6 at hr;exact hr.2.1
  have sor1:SoR r.2.1:=by unfold J6 at hr;exact hr.2.2.1
  have idr1:r.2.1.id=1:=by unfold J6 at hr;exact hr.2.2.2.1
  have sor2:SoR r.2.2.1:=by unfold J6 at hr;exact hr.2.2.2.2.1
  have idr2:r.2.2.1.id=2:=by unfold J6 at hr;exact hr.2.2.2.2.2.1
  have sor3:SoR r.2.2.2.1:=by unfold J6 at hr;exact hr.2.2.2.2.2.2.1
  have idr3:r.2.2.2.1.id=3:=by unfold J6 at hr;exact hr.2.2.2.2.2.2.2.1
  have sor4:SoR r.2.2.2.2.1:=by unfold J6 at hr;exact hr.2.2.2.2.2.2.2.2.1
  have idr4:r.2.2.2.2.1.id=4:=by unfold J6 at hr;exact hr.2.2.2.2.2.2.2.2.2.1
  have sor5:SoR r.2.2.2.2.2.1:=by unfold J6 at hr;exact hr.2.2.2.2.2.2.2.2.2.2.1
  have idr5:r.2.2.2.2.2.1.id=5:=by unfold J6 at hr;exact hr.2.2.2.2.2.2.2.2.2.2.2.1
  refine ⟨o6 q,o6 r,?_,?_,?_,rfl,rfl⟩
  · unfold gOut6
    refine (e0 _).trans ((e1 _).trans ((e2 _).trans ((e3 _).trans ((e4 _).trans ((e5 _).trans (?_))))))
    rw [fol6 _ _ (by simp;omega),eq]
    show (bnd (f_soOut ((Z6 q).1)) fun o0=>bnd (f_soOut (wE ((Z6 q).2.1) o0.2.1.se.engine)) fun o1=>bnd (f_soOut (wE ((Z6 q).2.2.1) o1.2.1.se.engine)) fun o2=>bnd (f_soOut (wE ((Z6 q).2.2.2.1) o2.2.1.se.engine)) fun o3=>bnd (f_soOut (wE ((Z6 q).2.2.2.2.1) o3.2.1.se.engine)) fun o4=>bnd (f_soOut (wE ((Z6 q).2.2.2.2.2.1) o4.2.1.se.engine)) fun o5=>some (([o0.1.1,o1.1.1,o2.1.1,o3.1.1,o4.1.1,o5.1.1],()),()):Option ((List Bs × Unit) × Unit))=_
    rw [soOut_eq ((Z6 q).1) (show SoR ((Z6 q).1) from soq0),bnd_ret,soOut_eq (wE ((Z6 q).2.1) ((Z6 q).1).se.engine) (show SoR (wE ((Z6 q).2.1) ((Z6 q).1).se.engine) from soq1),bnd_ret,soOut_eq (wE ((Z6 q).2.2.1) (wE ((Z6 q).2.1) ((Z6 q).1).se.engine).se.engine) (show SoR (wE ((Z6 q).2.2.1) (wE ((Z6 q).2.1) ((Z6 q).1).se.engine).se.engine) from soq2),bnd_ret,soOut_eq (wE ((Z6 q).2.2.2.1) (wE ((Z6 q).2.2.1) (wE ((Z6 q).2.1) ((Z6 q).1).se.engine).se.engine).se.engine) (show SoR (wE ((Z6 q).2.2.2.1) (wE ((Z6 q).2.2.1) (wE ((Z6 q).2.1) ((Z6 q).1).se.engine).se.engine).se.engine) from soq3),bnd_ret,soOut_eq (wE ((Z6 q).2.2.2.2.1) (wE ((Z6 q).2.2.2.1) (wE ((Z6 q).2.2.1) (wE ((Z6 q).2.1) ((Z6 q).1).se.engine).se.engine).se.engine).se.engine) (show SoR (wE ((Z6 q).2.2.2.2.1) (wE ((Z6 q).2.2.2.1) (wE ((Z6 q).2.2.1) (wE ((Z6 q).2.1) ((Z6 q).1).se.engine).se.engine).se.engine).se.engine) from soq4),bnd_ret,soOut_eq (wE ((Z6 q).2.2.2.2.2.1) (wE ((Z6 q).2.2.2.2.1) (wE ((Z6 q).2.2.2.1) (wE ((Z6 q).2.2.1) (wE ((Z6 q).2.1) ((Z6 q).1).se.engine).se.engine).se.engine).se.engine).se.engine) (show SoR (wE ((Z6 q).2.2.2.2.2.1) (wE ((Z6 q).2.2.2.2.1) (wE ((Z6 q).2.2.2.1) (wE ((Z6 q).2.2.1) (wE ((Z6 q).2.1) ((Z6 q).1).se.engine).se.engine).se.engine).se.engine).se.engine) from soq5),bnd_ret]
    rfl
  · unfold gOut6
    refine (e0 _).trans ((e1 _).trans ((e2 _).trans ((e3 _).trans ((e4 _).trans ((e5 _).trans (?_))))))
    rw [fol6 _ _ hl,ea]
    show (bnd (f_soOut ((Z6 r).1)) fun o0=>bnd (f_soOut (wE ((Z6 r).2.1) o0.2.1.se.engine)) fun o1=>bnd (f_soOut (wE ((Z6 r).2.2.1) o1.2.1.se.engine)) fun o2=>bnd (f_soOut (wE ((Z6 r).2.2.2.1) o2.2.1.se.engine)) fun o3=>bnd (f_soOut (wE ((Z6 r).2.2.2.2.1) o3.2.1.se.engine)) fun o4=>bnd (f_soOut (wE ((Z6 r).2.2.2.2.2.1) o4.2.1.se.engine)) fun o5=>some (([o0.1.1,o1.1.1,o2.1.1,o3.1.1,o4.1.1,o5.1.1],()),()):Option ((List Bs × Unit) × Unit))=_
    rw [soOut_eq ((Z6 r).1) (show SoR ((Z6 r).1) from sor0),bnd_ret,soOut_eq (wE ((Z6 r).2.1) ((Z6 r).1).se.engine) (show SoR (wE ((Z6 r).2.1) ((Z6 r).1).se.engine) from sor1),bnd_ret,soOut_eq (wE ((Z6 r).2.2.1) (wE ((Z6 r).2.1) ((Z6 r).1).se.engine).se.engine) (show SoR (wE ((Z6 r).2.2.1) (wE ((Z6 r).2.1) ((Z6 r).1).se.engine).se.engine) from sor2),bnd_ret,soOut_eq (wE ((Z6 r).2.2.2.1) (wE ((Z6 r).2.2.1) (wE ((Z6 r).2.1) ((Z6 r).1).se.engine).se.engine).se.engine) (show SoR (wE ((Z6 r).2.2.2.1) (wE ((Z6 r).2.2.1) (wE ((Z6 r).2.1) ((Z6 r).1).se.engine).se.engine).se.engine) from sor3),bnd_ret,soOut_eq (wE ((Z6 r).2.2.2.2.1) (wE ((Z6 r).2.2.2.1) (wE ((Z6 r).2.2.1) (wE ((Z6 r).2.1) ((Z6 r).1).se.engine).se.engine).se.engine).se.engine) (show SoR (wE ((Z6 r).2.2.2.2.1) (wE ((Z6 r).2.2.2.1) (wE ((Z6 r).2.2.1) (wE ((Z6 r).2.1) ((Z6 r).1).se.engine).se.engine).se.engine).se.engine) from sor4),bnd_ret,soOut_eq (wE ((Z6 r).2.2.2.2.2.1) (wE ((Z6 r).2.2.2.2.1) (wE ((Z6 r).2.2.2.1) (wE ((Z6 r).2.2.1) (wE ((Z6 r).2.1) ((Z6 r).1).se.engine).se.engine).se.engine).se.engine).se.engine) (show SoR (wE ((Z6 r).2.2.2.2.2.1) (wE ((Z6 r).2.2.2.2.1) (wE ((Z6 r).2.2.2.1) (wE ((Z6 r).2.2.1) (wE ((Z6 r).2.1) ((Z6 r).1).se.engine).se.engine).se.engine).se.engine).se.engine) from sor5),bnd_ret]
    rfl
  · exact ⟨hR.1,(by have h:=SoR_first soq0;rw [idq0] at h;exact h),⟨hR.2.1,(by have h:=SoR_first soq1;rw [idq1] at h;exact h),⟨hR.2.2.1,(by have h:=SoR_first soq2;rw [idq2] at h;exact h),⟨hR.2.2.2.1,(by have h:=SoR_first soq3;rw [idq3] at h;exact h),⟨hR.2.2.2.2.1,(by have h:=SoR_first soq4;rw [idq4] at h;exact h),⟨hR.2.2.2.2.2,(by have h:=SoR_first soq5;rw [idq5] at h;exact h),trivial⟩⟩⟩⟩⟩⟩
end Go.Proofs.YtjgeofdgdlmcoaaGreatDoor
namespace Go.Proofs.YtjgeofdgdlmcoaaGreatDoor
open Go Go.RK
open Go.RK.Uni (Ty El)
open Go.RK.Byt (bT)
noncomputable def f_awake  : Option ((Bool × Unit) × Unit) :=
 some ((decide ((Int.ofNat (List.length (([]:List (Int))++[(getU (t:=Tm.call) [(MCall.mk (1:Int) (2:Int))] (0:Int)).index])))=(1:Int)),()),())
noncomputable def c_awake:Go.RK.Fn Tryz.prog 5:=mkFn hm0 en0 (by kernel_rfl) [] [4] tNil (tC (qB (nu 0)) tNil) tNil 0 0 (natX_ok c_mixPrefix (natX_ok c_plHello (natX_ok c_order (natX_ok c_mixFollow0 (natX_ok c_mixFollow1 (natX_ok c_mixFollow2 (natX_ok c_mixFollow3 (natX_ok c_mixFollow4 (natX_ok c_mixFollow5 (natX_ok c_mixFollow6 (natX_ok c_soOut (natX_ok c_mixUpto (natX_ok c_enNew (natX_ok c_soNew (natX_ok c_soFeed (natX_ok c_mixBegin (natX_ok c_greetBytes (nat0_ok _)))))))))))))))))) [] (by kernel_rfl) (fun x=>f_awake ) fun x=>by kernel_rfl
end Go.Proofs.YtjgeofdgdlmcoaaGreatDoor
namespace Go.Proofs.YtjgeofdgdlmcoaaGreatDoor
open Go Go.RK
open Go.RK.Uni (Ty El)
open Go.RK.Byt (bT)
noncomputable def s_mixLonger_0 (a:List (Bs)) (b:List (Bs)) (t46:Int) (t47:Int):Option ((List (Bs) × (List (Bs) × (Int × (Int × Unit)))) ⊕ (Unit ⊕ (Bool × Unit))) :=
 bif (ltI t47 t46) then
  bif (inB t47 (List.length a)) then
   bif (inB t47 (List.length b)) then
    bnd (f_mixPrefix (getU (t:=Tm.bs) a t47) (getU (t:=Tm.bs) b t47)) fun y8 =>
    bif (!y8.1.1) then
     some (.inr (.inr (false,())))
    else bif (inB t47 (List.length b)) then
     bif (inB t47 (List.length a)) then
      bnd (f_byHasPrefix (getU (t:=Tm.bs) b t47) (getU (t:=Tm.bs) a t47)) fun y9 =>
      bif (!y9.1.1) then
       some (.inr (.inr (false,())))
      else bif (inB t47 (List.length a)) then
       bif (ltI (0:Int) (Int.ofNat (List.length (getU (t:=Tm.bs) a t47)))) then
        bif (inB t47 (List.length a)) then
         bnd (f_refB (([]:List (Pair)),(t47,()))) fun y10 =>
         bnd (f_mixPrefix y10.1.1 (getU (t:=Tm.bs) a t47)) fun y11 =>
         bif (!y11.1.1) then
          bif (inB t47 (List.length a)) then
           bif (inB (0:Int) (List.length (getU (t:=Tm.bs) a t47))) then
            bif (!decide ((Int.ofNat (UInt8.toNat (getU (t:=Tm.by) (getU (t:=Tm.bs) a t47) (0:Int))))=(78:Int))) then
             some (.inr (.inr (false,())))
            else bif (inR (t47+(1:Int))) then
             some (.inl (a,(b,(t46,((t47+(1:Int)),())))))
            else none
           else none
          else none
         else bif (inR (t47+(1:Int))) then
          some (.inl (a,(b,(t46,((t47+(1:Int)),())))))
         else none
        else none
       else bif (inR (t47+(1:Int))) then
        some (.inl (a,(b,(t46,((t47+(1:Int)),())))))
       else none
      else none
     else none
    else none
   else none
  else none
 else some (.inr (.inl ()))
noncomputable def l_mixLonger_0:Lp Tryz.prog:=mkLp (P:=Tryz.prog) [8,9,46,47] [22,22,3,3] 0 [] (tC (tRow Tm.bs) (tC (tRow Tm.bs) (tC tI (tC tI tNil)))) [⟨.exit 0,[],[],0,tNil⟩,⟨.ret,[6],[4],0,(tC tBool tNil)⟩] (fun x=>s_mixLonger_0 x.1 x.2.1 x.2.2.1 x.2.2.2.1)
noncomputable def u_mixLonger_0 (a:List (Bs)) (b:List (Bs)) (t46:Int) (t47:Int):Nat:=Int.toNat (t46 - t47)+1
noncomputable def k_mixLonger_0:Lk Tryz.prog 3 0:=mkLk hm0 en0 l_mixLonger_0 0 (fun x=>u_mixLonger_0 x.1 x.2.1 x.2.2.1 x.2.2.2.1) (natX_ok c_awake (natX_ok c_mixOut (natX_ok c_mixPrefix (natX_ok c_byHasPrefix (natX_ok c_refB (natX_ok c_few (nat0_ok _))))))) [] (by kernel_rfl) fun x=>by kernel_rfl
noncomputable def f_mixLonger (a0:List (Bs)) (a1:List (MCall)) (a2:UInt8):Option ((Bool × Unit) × Unit) :=
 bnd (f_few a0 (6:Int) (3000:Int)) fun y0 =>
 bif (!y0.1.1) then
  some ((decide ((Int.ofNat (List.length (([]:List (Int))++[(getU (t:=Tm.call) [(MCall.mk (1:Int) (2:Int))] (0:Int)).index])))=(1:Int)),()),())
 else bif (ltI (100:Int) (Int.ofNat (List.length a1))) then
  some ((decide ((Int.ofNat (List.length (([]:List (Int))++[(getU (t:=Tm.call) [(MCall.mk (1:Int) (2:Int))] (0:Int)).index])))=(1:Int)),()),())
 else bif (inR (Int.ofNat (UInt8.toNat a2))) then
  bif (true && ((leI (0:Int) (minI (Int.ofNat (UInt8.toNat a2)) (Int.ofNat (List.length a1)))) && (true && ((Nat.ble (0:Nat) (Int.toNat (minI (Int.ofNat (UInt8.toNat a2)) (Int.ofNat (List.length a1))))) && ((Nat.ble (Int.toNat (minI (Int.ofNat (UInt8.toNat a2)) (Int.ofNat (List.length a1)))) (Int.toNat (minI (Int.ofNat (UInt8.toNat a2)) (Int.ofNat (List.length a1))))) && (Nat.ble (Int.toNat (minI (Int.ofNat (UInt8.toNat a2)) (Int.ofNat (List.length a1)))) (List.length a1))))))) then
   bnd (f_mixOut (([]:List (Pair)),(a0,((List.take ((Int.toNat (minI (Int.ofNat (UInt8.toNat a2)) (Int.ofNat (List.length a1)))) - (0:Nat)) (List.drop (0:Nat) a1)),(([]:List (Int)),()))))) fun y1 =>
   bnd (f_mixOut (([]:List (Pair)),(a0,(a1,(([]:List (Int)),()))))) fun y2 =>
   bif (!decide ((Int.ofNat (List.length y1.1.1))=(Int.ofNat (List.length a0)))) then
    some ((false,()),())
   else bif (!decide ((Int.ofNat (List.length y2.1.1))=(Int.ofNat (List.length a0)))) then
    some ((false,()),())
   else bnd (lpF l_mixLonger_0.step (u_mixLonger_0 y1.1.1 y2.1.1 (Int.ofNat (List.length y1.1.1)) (0:Int)) (y1.1.1,(y2.1.1,((Int.ofNat (List.length y1.1.1)),((0:Int),()))))) fun y3 =>
   match y3 with
   | .inl y4 =>
    some ((decide ((Int.ofNat (List.length (([]:List (Int))++[(getU (t:=Tm.call) [(MCall.mk (1:Int) (2:Int))] (0:Int)).index])))=(1:Int)),()),())
   | .inr y4 =>
    some ((y4.1,()),())
  else none
 else none
noncomputable def c_mixLonger:Go.RK.Fn Tryz.prog 3:=mkFn hm0 en0 (by kernel_rfl) [22,23,5] [4] (tC (qR .bs (nu 0)) (tC (qR .call (nu 0)) (tC (qY (nu 0)) tNil))) (tC (qB (nu 0)) tNil) tNil 0 0 (natX_ok c_awake (natX_ok c_mixOut (natX_ok c_mixPrefix (natX_ok c_byHasPrefix (natX_ok c_refB (natX_ok c_few (nat0_ok _))))))) [⟨_,k_mixLonger_0⟩] (by kernel_rfl) (fun x=>f_mixLonger x.1 x.2.1 x.2.2.1) fun x=>by kernel_rfl
end Go.Proofs.YtjgeofdgdlmcoaaGreatDoor
namespace Go.Proofs.YtjgeofdgdlmcoaaGreatDoor
open Go Go.RK
open Go.RK.Uni (Ty El)
open Go.RK.Byt (bT)
theorem mixOut_law:∀ (l:List Bs),l.length≤6→(∀ b∈l,b.length≤3000)→∀ (log:List MCall),log.length≤1000→(∀ a∈log,-9223372036854775808≤a.index)→∀ k:Nat,∃ x y:List Bs,f_mixOut ([],(l,(log.take k,([],()))))=some ((x,()),())∧f_mixOut ([],(l,(log,([],()))))=some ((y,()),())∧LawR 0 x y∧x.length=l.length∧y.length=l.length
  | [],hl,hb,log,h,hi,k=>law0   log h hi k
  | [b0],hl,hb,log,h,hi,k=>law1 b0 (hb b0 (by simp)) log h hi k
  | [b0,b1],hl,hb,log,h,hi,k=>law2 b0 b1 (hb b0 (by simp)) (hb b1 (by simp)) log h hi k
  | [b0,b1,b2],hl,hb,log,h,hi,k=>law3 b0 b1 b2 (hb b0 (by simp)) (hb b1 (by simp)) (hb b2 (by simp)) log h hi k
  | [b0,b1,b2,b3],hl,hb,log,h,hi,k=>law4 b0 b1 b2 b3 (hb b0 (by simp)) (hb b1 (by simp)) (hb b2 (by simp)) (hb b3 (by simp)) log h hi k
  | [b0,b1,b2,b3,b4],hl,hb,log,h,hi,k=>law5 b0 b1 b2 b3 b4 (hb b0 (by simp)) (hb b1 (by simp)) (hb b2 (by simp)) (hb b3 (by simp)) (hb b4 (by simp)) log h hi k
  | [b0,b1,b2,b3,b4,b5],hl,hb,log,h,hi,k=>law6 b0 b1 b2 b3 b4 b5 (hb b0 (by simp)) (hb b1 (by simp)) (hb b2 (by simp)) (hb b3 (by simp)) (hb b4 (by simp)) (hb b5 (by simp)) log h hi k
  | _ :: _ :: _ :: _ :: _ :: _ :: _ :: _,hl,_,_,_,_,_=>absurd hl (by simp)
theorem hp_true (x y:Bs) (h:x <+: y):f_byHasPrefix y x=some ((true,()),()):=by
  obtain ⟨z,rfl⟩:=h
  obtain ⟨⟨⟨r,⟨⟩⟩,⟨⟩⟩,e,_⟩:=t_byHasPrefix (x++z) x
  rw [e]
  unfold f_byHasPrefix at e
  have h1:leI (Int.ofNat (List.length x)) (Int.ofNat (List.length (x++z)))=true:=by
    simp
    omega
  rw [h1] at e
  simp only [cond_true] at e
  obtain ⟨h2,e⟩:=bif_some e
  injection e with e
  have e:decide (List.take (Int.toNat (Int.ofNat (List.length x)) - 0) (List.drop 0 (x++z))=x)=r:=congrArg (fun q=>q.1.1) e
  rw [← e]
  simp
theorem mp_true (x y:Bs) (h:x <+: y):f_mixPrefix x y=some ((true,()),()):=by
  unfold f_mixPrefix
  rw [hp_true x y h]
  rfl
theorem refB_eq (i:Int) (h:0≤i∧i≤5):f_refB ([],(i,()))=some ((grB i,()),()):=by
  have:i=0∨i=1∨i=2∨i=3∨i=4∨i=5:=by omega
  rcases this with rfl | rfl | rfl | rfl | rfl | rfl <;> rfl
theorem LawR_get:∀ (a b:List Bs) (j:Int) (k:Nat),LawR j a b→k < a.length→(a.getD k [] <+: b.getD k [])∧(a.getD k []=[]∨(∃ l,a.getD k []=78 :: l)∨grB (j+k) <+: a.getD k [])
  | [],_,_,_,_,h=>absurd h (Nat.not_lt_zero _)
  | _ :: _,[],_,_,h,_=>h.elim
  | x :: a,y :: b,j,0,h,_=>⟨h.1,by rw [show j+((0:Nat):Int)=j by omega];exact h.2.1⟩
  | x :: a,y :: b,j,k+1,h,hk=>by
    have:=LawR_get a b (j+1) k h.2.2 (by simpa using hk)
    rw [show j+1+(k:Int)=j+((k+1:Nat):Int) by omega] at this
    exact this
theorem st_law (a b : List Bs) (n i : Int) (h : 0 ≤ i ∧ i ≤ n ∧ n = a.length ∧ n = b.length ∧ n ≤ 6) (hL : LawR 0 a b) :
    Tt (s_mixLonger_0 a b n i) fun r=>match r with | .inl x=>(x.1=a∧x.2.1=b∧x.2.2.1=n∧x.2.2.2.1=i+1)∧i < n | .inr y=>y=.inl ():=by
  unfold s_mixLonger_0
  refine Tt.bif (fun hlt=>?_) (fun _=>Tt.ret rfl)
  have hlt:i < n:=by simpa using hlt
  have ha:inB i a.length=true:=by grind
  have hb:inB i b.length=true:=by grind
  have hr:inR (i+1)=true:=by grind
  have hg:=LawR_get a b 0 i.toNat hL (by omega)
  rw [show (0:Int)+(i.toNat:Int)=i by omega] at hg
  obtain ⟨hp,hf⟩:=hg
  have hp:(getU (t:=Tm.bs) a i:Bs) <+: (getU (t:=Tm.bs) b i:Bs):=hp
  have hf:(getU (t:=Tm.bs) a i:Bs)=[]∨(∃ l,(getU (t:=Tm.bs) a i:Bs)=78 :: l)∨grB i <+: (getU (t:=Tm.bs) a i:Bs):=hf
  have done:Tt (some (.inl (a,(b,(n,((i+(1:Int)),()))))):Option ((List Bs × (List Bs × (Int × (Int × Unit)))) ⊕ (Unit ⊕ (Bool × Unit)))) fun r=>match r with | .inl x=>(x.1=a∧x.2.1=b∧x.2.2.1=n∧x.2.2.2.1=i+1)∧i < n | .inr y=>y=.inl ():=Tt.ret ⟨⟨rfl,rfl,rfl,rfl⟩,hlt⟩
  refine Tt.ok ha (Tt.ok hb ?_)
  rw [mp_true _ _ hp,bnd_ret]
  refine Tt.bif (fun e=>by cases e) (fun _=>Tt.ok hb (Tt.ok ha ?_))
  rw [hp_true _ _ hp,bnd_ret]
  refine Tt.bif (fun e=>by cases e) (fun _=>Tt.ok ha ?_)
  refine Tt.bif (fun hpos=>Tt.ok ha ?_) (fun _=>Tt.ok hr done)
  rw [refB_eq i (by omega),bnd_ret]
  rcases hf with hf | ⟨l,hf⟩ | hf
  · rw [hf] at hpos
    cases hpos
  · obtain ⟨y,ey,_⟩:=t_mixPrefix (grB i) (getU (t:=Tm.bs) a i)
    rw [show f_mixPrefix (((grB i,()),()):(Bs × Unit) × Unit).1.1 (getU (t:=Tm.bs) a i)=some y from ey,bnd_ret]
    refine Tt.bif (fun _=>Tt.ok ha (Tt.ok ?_ ?_)) (fun _=>Tt.ok hr done)
    · rw [hf]
      rfl
    · refine Tt.bif (fun e=>?_) (fun _=>Tt.ok hr done)
      rw [hf] at e
      cases e
  · rw [show f_mixPrefix (((grB i,()),()):(Bs × Unit) × Unit).1.1 (getU (t:=Tm.bs) a i)=some ((true,()),()) from mp_true _ _ hf,bnd_ret]
    exact Tt.bif (fun e=>by cases e) (fun _=>Tt.ok hr done)
theorem lp_law (a b : List Bs) (hl : a.length ≤ 6) (he : a.length = b.length) (hL : LawR 0 a b) :
    Tt (α:=Unit ⊕ (Bool × Unit)) (lpF l_mixLonger_0.step (u_mixLonger_0 a b (Int.ofNat a.length) 0) (a,(b,((Int.ofNat a.length),((0:Int),()))))) fun y=>y=.inl ():=by
  refine Tt.lp (fun x=>x.1=a∧x.2.1=b∧x.2.2.1=(a.length:Int)∧0≤x.2.2.2.1∧x.2.2.2.1≤(a.length:Int)) (fun x=>((a.length:Int) - x.2.2.2.1).toNat) (fun x h=>?_) ⟨rfl,rfl,rfl,Int.le_refl _,by show (0:Int)≤_;omega⟩ (by unfold u_mixLonger_0;show ((a.length:Int) - 0).toNat < ((a.length:Int) - 0).toNat+1;omega)
  obtain ⟨x1,x2,x3,x4,⟨⟩⟩:=x
  obtain ⟨h1,h2,h3,h4,h5⟩:=h
  have h1:x1=a:=h1
  have h2:x2=b:=h2
  have h3:x3=(a.length:Int):=h3
  have h4:0≤x4:=h4
  have h5:x4≤(a.length:Int):=h5
  subst h1 h2 h3
  refine (st_law x1 x2 (x1.length:Int) x4 ⟨h4,h5,rfl,by omega,by omega⟩ hL).mono fun r hr=>?_
  rcases r with r | r
  · obtain ⟨⟨r1,r2,r3,r4⟩,r5⟩:=hr
    have key:∀ n u z:Int,0≤u→u < n→z=u+1→0≤z∧z≤n∧(n - z).toNat < (n - u).toNat:=fun n u z h1 h2 hz=>by
      subst hz
      exact ⟨by omega,by omega,by omega⟩
    have k:=key _ x4 _ h4 r5 r4
    exact ⟨⟨r1,r2,r3,k.1,k.2.1⟩,k.2.2⟩
  · exact hr
theorem mixLonger_true (l:List Bs) (log:List MCall) (n:UInt8) (hi:∀ a∈log,-9223372036854775808≤a.index):f_mixLonger l log n=some ((true,()),()):=by
  unfold f_mixLonger
  obtain ⟨y0,e0,h0⟩:=t_few l 6 3000 (by omega)
  rw [e0,bnd_ret]
  cases hy:y0.1.1 with
  | false=>rfl
  | true =>
    obtain ⟨hlen,hF⟩:=h0 hy
    have hlen:l.length≤6:=by omega
    have hb:∀ b∈l,b.length≤3000:=fun b hm=>by
      obtain ⟨j,hj,e⟩:=List.getElem_of_mem hm
      have:=hF j (by omega)
      rw [List.getD_eq_getElem?_getD,List.getElem?_eq_getElem hj,e] at this
      have:(b.length:Int)≤3000:=this
      omega
    show (bif ltI 100 (Int.ofNat (List.length log)) then _ else _)=_
    cases hl:ltI 100 (Int.ofNat (List.length log)) with
    | true=>rfl
    | false =>
      have hl:(log.length:Int)≤100:=by simpa using hl
      have hl:log.length≤100:=by omega
      generalize hk:Int.toNat (minI (Int.ofNat (UInt8.toNat n)) (Int.ofNat (List.length log)))=k
      have hu:=n.toNat_lt
      have g1:inR (Int.ofNat (UInt8.toNat n))=true:=by
        rw [inR_iff]
        simp
        omega
      simp only [cond_false]
      rw [g1]
      simp only [cond_true]
      have g2:leI (0:Int) (minI (Int.ofNat (UInt8.toNat n)) (Int.ofNat (List.length log)))=true:=by
        rw [leI_iff,minI_iff]
        simp
        omega
      have g3:k≤log.length:=by
        rw [← hk,minI_iff]
        simp
        omega
      have g4:Nat.ble k log.length=true:=by simp [g3]
      have g5:Nat.ble k k=true:=by simp
      have g6:Nat.ble 0 k=true:=by simp
      rw [g2,g4,g5,g6]
      simp only [Bool.and_true,cond_true]
      obtain ⟨x,y,ex,ey,hL,h1,h2⟩:=mixOut_law l hlen hb log (by omega) hi k
      have ex:f_mixOut ([],(l,(List.take (k - 0) (List.drop 0 log),([],()))))=some ((x,()),()):=ex
      rw [ex,bnd_ret,ey,bnd_ret]
      have c1:decide (Int.ofNat (List.length x)=Int.ofNat (List.length l))=true:=by simp [h1]
      have c2:decide (Int.ofNat (List.length y)=Int.ofNat (List.length l))=true:=by simp [h2]
      rw [c1,c2]
      simp only [Bool.not_true,cond_false]
      obtain ⟨z,ez,hz⟩:=lp_law x y (by omega) (by omega) hL
      subst hz
      exact (congrArg (fun q=>bnd q _) ez).trans rfl
end Go.Proofs.YtjgeofdgdlmcoaaGreatDoor
namespace Go.RK
open Go Go.Deep
open Go.RK.Uni (Ty El)
open Go.RK.Byt (bT)
variable [Uni]
noncomputable def fzH (h:Heap):Fz:=fun b=>match h[b]? with
  | some (.cells ⟨us⟩ _ _)=>some us
  | _=>Option.none
theorem fzH_some {h:Heap} {b:Nat} {us:List Value} (e:fzH h b=some us):∃ t z,h[b]?=some (.cells ⟨us⟩ t z):=by
  unfold fzH at e
  split at e
  · rename_i us' t z hb
    injection e with e
    subst e
    exact ⟨t,z,hb⟩
  · cases e
noncomputable def sgH (h:Heap):Sg:=⟨fun _=>Option.none,fzH h,fun _=>[]⟩
theorem hr_base (h:Heap) (hg:∀ b us,Uni.gl b=some us→∃ us',fzH h b=some us'∧us <+: us'):HR (sgH h) (hpS 0 []) h where
  obj β o e:=by rw [no_get] at e;cases e
  inj β β' o o' p p' e:=by rw [no_get] at e;cases e
  dom β p e:=by cases e
  ltb β p e:=by cases e
  frz b us e:=⟨fzH_some e,no_lv⟩
  exl b c m:=by cases m
  gl:=hg
def OpensT (P:Program) (w:World) (t:TypeId) {α:Type} (F:α→List Value) (Q:α→Prop):Prop :=
  ∀ (H:Type) (enc:TypeId × Value→H) (base:Nat) (spare:Nat→Bool) (held:Bool) (fuel:Nat) (cs:List Value) (x:DataW H × List MemPlace),DataW.trod enc P w base spare held fuel t cs=some x→(∀ n∈x.1.weights P t,n≤reachBytes)→∃ a,cs=F a∧(spare=(fun _=>true)→Q a)
theorem datL_of {F : Fz} {τ : Ty} {us : List Value} {o len : Nat} {f : Nat → El τ} (h : ∀ i, i < len → DatF F (Uni.sh τ) (Uni.op τ (f i)) ((us.drop (o + i * szU τ)).take (szU τ))) :
    ∀ n i,i+n≤len→DatL F τ ((List.range' i n).map f) (us.drop (o+i * szU τ))
  | 0,i,_=>.nil
  | n+1,i,hi=>by
    have k:=DatL.cons (h i (by omega)) (datL_of h n (i+1) (by omega))
    have e:us.drop (o+(i+1) * szU τ)=(us.drop (o+i * szU τ)).drop (szU τ):=by
      rw [List.drop_drop]
      congr 1
      rw [Nat.add_mul,Nat.one_mul]
      omega
    rw [e,List.take_append_drop] at k
    exact k
theorem opensT_row {P : Program} {w : World} {τ : Ty} {t e : TypeId} {Q : El τ → Prop} (ht : P.underlying t = some (.slice e)) (hc : P.cellsOf e = szU τ) (hp : 0 < szU τ)
    (hE:∀ (H:Type) (enc:TypeId × Value→H) (base:Nat) (spare:Nat→Bool) (held:Bool) (fuel:Nat) (cs:List Value) (x:DataW H × List MemPlace),DataW.trod enc P w base spare held fuel e cs=some x→(∀ n∈x.1.weights P e,n≤reachBytes) →
      ∃ y:El τ,spare=(fun _=>true)→DatF (fzH w.heap) (Uni.sh τ) (Uni.op τ y) cs∧Q y) :
    OpensT P w t (fun p:Value × List (El τ)=>[p.1]) (fun p=>DatV (fzH w.heap) (.row τ) p.2 p.1∧∀ y∈p.2,Q y):=by
  intro H enc base spare held fuel cs x h hz
  rcases open_slice ht h with ⟨rfl,_⟩ | ⟨a,len,cap,m,n,D,Pl,rfl,hb,hle,hm,hme,rfl,hi⟩
  · exact ⟨(.slice Option.none 0 0,[]),rfl,fun _=>⟨.row0,by simp⟩⟩
  · rw [hc] at hi
    have hml:len≤m:=by rw [hme];split <;> omega
    have hy:∀ i,∃ y:El τ,i < len→spare=(fun _=>true)→∃ cs',w.cells? base (a.add (i * szU τ)) (szU τ)=some cs'∧DatF (fzH w.heap) (Uni.sh τ) (Uni.op τ y) cs'∧Q y:=fun i=>by
      by_cases hil:i < len
      · obtain ⟨cs',h1,h2⟩:=hi i (by omega)
        obtain ⟨y,hy⟩:=hE H enc base spare held n _ _ h2 fun k hk=>hz k (by
          simp only [DataW.weights,ht,List.mem_cons,List.mem_append]
          exact .inr (.inl (weightsAll_mem (List.mem_map.2 ⟨i,List.mem_range.2 hil,rfl⟩) k hk)))
        exact ⟨y,fun _ hs=>⟨cs',h1,hy hs⟩⟩
      · exact ⟨Uni.dfl τ,fun h=>absurd h hil⟩
    let f:Nat→El τ:=fun i=>Classical.choose (hy i)
    have hf:∀ i,i < len→spare=(fun _=>true)→∃ cs',w.cells? base (a.add (i * szU τ)) (szU τ)=some cs'∧DatF (fzH w.heap) (Uni.sh τ) (Uni.op τ (f i)) cs'∧Q (f i):=fun i=>Classical.choose_spec (hy i)
    refine ⟨(.slice (some a) len cap,(List.range' 0 len).map f),rfl,fun hs=>⟨?_,?_⟩⟩
    · rcases Nat.eq_zero_or_pos len with h0 | hpos
      · subst h0
        exact .rowE hm
      · have hmc:m=cap:=by rw [hme,hs];rfl
        have hcell:∀ i,i < cap→∃ cs',w.cells? base (a.add (i * szU τ)) (szU τ)=some cs':=fun i hic=>let ⟨cs',h1,_⟩:=hi i (by omega);⟨cs',h1⟩
        obtain ⟨c0,hc0⟩:=hcell 0 (by omega)
        obtain ⟨_,hl0,hg0⟩:=World.cells?_some hc0
        have hg0:=hg0 0 hp
        have hl1:0 < c0.length:=by omega
        rw [List.getElem?_eq_getElem hl1,Nat.zero_mul,add_add,Addr.add_zero'] at hg0
        obtain ⟨b,o,spot⟩:=a
        have hsp:spot=Option.none:=cell_spot hg0
        subst hsp
        have hblk:∃ us T z,w.heap[b]?=some (.cells ⟨us⟩ T z):=by
          have hg0:w.cell? ⟨b,o,Option.none⟩=some _:=hg0
          unfold World.cell? at hg0
          split at hg0
          · rename_i arr T z hb
            obtain ⟨us⟩:=arr
            exact ⟨us,T,z,hb⟩
          · cases hg0
        obtain ⟨us,T,z,hbk⟩:=hblk
        have hat:∀ k,w.cell? ⟨b,o+k,Option.none⟩=us[o+k]?:=fun k=>by
          rw [cell_eq,cell_of hbk]
          simp
        have hseg:∀ i cs',w.cells? base ((⟨b,o,Option.none⟩:Addr).add (i * szU τ)) (szU τ)=some cs'→cs'=(us.drop (o+i * szU τ)).take (szU τ)∧o+i * szU τ+szU τ≤us.length:=fun i cs' h=>by
          obtain ⟨_,h1,h2⟩:=World.cells?_some h
          have h3:∀ j,j < szU τ→us[o+i * szU τ+j]?=cs'[j]?:=fun j hj=>by
            have:=h2 j hj
            rw [add_add,Addr.add_lit,hat] at this
            rw [← this]
            congr 1
            omega
          have hlast:o+i * szU τ+(szU τ - 1) < us.length:=by
            have:=h3 (szU τ - 1) (by omega)
            have h4:szU τ - 1 < cs'.length:=by omega
            rw [List.getElem?_eq_getElem h4] at this
            exact (List.getElem?_eq_some_iff.1 this).1
          refine ⟨?_,by omega⟩
          apply List.ext_getElem?
          intro j
          rw [List.getElem?_take]
          split
          · rename_i hj
            rw [List.getElem?_drop]
            exact (h3 j hj).symm
          · exact List.getElem?_eq_none (by omega)
        have hlen:((List.range' 0 len).map f).length=len:=by simp
        obtain ⟨c1,hc1⟩:=hcell (cap - 1) (by omega)
        have h1:=(hseg _ _ hc1).2
        have hn:o+cap * szU τ≤us.length:=by
          have:cap * szU τ=(cap - 1) * szU τ+szU τ:=by
            rw [← Nat.succ_mul]
            congr 1
            omega
          omega
        have hd:=datL_of (F:=fzH w.heap) (us:=us) (o:=o) (len:=len) (f:=f) (fun i hil=>by
          obtain ⟨cs',h1,h2,_⟩:=hf i hil hs
          rw [(hseg i cs' h1).1] at h2
          exact h2) len 0 (by omega)
        rw [Nat.zero_mul,Nat.add_zero] at hd
        have hr:=DatV.row (F:=fzH w.heap) (t:=τ) (l:=(List.range' 0 len).map f) (b:=b) (o:=o) (c:=cap) (us:=us) (by unfold fzH;rw [hbk]) (by rw [hlen];exact hle) hm hn hd
        rw [hlen] at hr
        exact hr
    · intro y hy
      obtain ⟨i,hi',rfl⟩:=List.mem_map.1 hy
      have hil:i < len:=by simpa using hi'
      obtain ⟨_,_,_,hq⟩:=hf i hil hs
      exact hq
theorem calls_base {P : Program} {k : Nat} (hEn : EnOk P) (hb : bodyB P k = true) {vs : List AV} {us : List Value} {h : Heap} {A' : Hp} (c : CallOk P k vs (hpS 0 []) (.bool true) A') (hv : VaL (sgH h) vs us)
    (hg:∀ b us,Uni.gl b=some us→∃ us',fzH h b=some us'∧us <+: us'):CallsH P k ⟨us⟩ h fun u h'=>u=.bool true∧Ext No h h':=by
  rcases c (sgH h) us h hv (hr_base h hg) with h1 | ⟨_,h1⟩
  · intro w hw
    obtain ⟨u,w',_,_,e⟩:=h1 w hw
    rw [hEn k hb ⟨us⟩ w] at e
    cases e
  · refine h1.mono fun u h' ⟨σ',st,hv⟩=>?_
    cases hv
    exact ⟨rfl,st.size,fun b hb _=>st.keep b hb no_wr⟩
end Go.RK
namespace Go.Proofs.YtjgeofdgdlmcoaaGreatDoor
open Go Go.RK
open Go.RK.Uni (Ty El)
open Go.RK.Byt (bT)
def laidP:List (String × DataW Unit):=Rows.mixLongerRow.laid.filter fun x=>x.2.handleName?.isNone
theorem er_et:Tryz.prog.globalNamed "errors.errorType" = some 0:=by kernel_rfl
theorem er_rt:(Tryz.prog.cutTypes.find? (·.1 == "internal/reflectlite.rtype")).map (·.2)=some 235:=by kernel_rfl
theorem er_one:((List.range 389).filter fun t=>Tryz.prog.rowNamed t [101,114,114,111,114])=[153]:=by kernel_rfl
theorem er_size:Tryz.prog.types.size=389:=by kernel_rfl
theorem er_laid {W:World} (h:laidMetH Tryz.prog Rows.mixLongerRow.laid W):W.cell? ⟨0,0,none⟩=some (.iface 235 (.agg #[.pointer (some ⟨4,153,none⟩)])):=by
  have h':laidMet Tryz.prog laidP W∧handlesMet Tryz.prog [( "errors.errorType", Rows.laid_errors_errorType)] W:=h
  obtain ⟨name,u,ty,e1,e2,e3,e4,e5⟩:=h'.2 _ (List.mem_singleton.2 rfl)
  have en:name=[101,114,114,111,114]:=(Option.some.inj e1).symm
  subst en
  obtain rfl:=Option.some.inj (er_rt.symm.trans e2)
  have hm:ty∈(List.range 389).filter fun t=>Tryz.prog.rowNamed t [101,114,114,111,114]:=List.mem_filter.2 ⟨List.mem_range.2 (by rw [← er_size];exact e3),e4⟩
  rw [er_one] at hm
  obtain rfl:=List.mem_singleton.1 hm
  have hh:typeHandle Tryz.prog 153=.pointer (some ⟨4,153,none⟩):=by kernel_rfl
  rw [hh] at e5
  simpa using World.var?_cell er_et e5 0
noncomputable def handWorld (os:Os):World :=
  let w0:=World.holding Tryz.prog os ⟨#[],#[],[]⟩
  { w0 with heap := w0.heap.modify 0 fun
      | .cells _ t frozen=>.cells #[.iface 235 (.agg #[.pointer (some ⟨4,153,none⟩)])] t frozen
      | o=>o }
noncomputable def laidWorld (os:Os):World:=(handWorld os).layVars Tryz.prog laidP
theorem laidWorld_os (os:Os):(laidWorld os).os=os:=World.layVars_os _ _ _
theorem laidWorld_met (os:Os) (args:Array Value):laidMetH Tryz.prog Rows.mixLongerRow.laid ((laidWorld os).forCall (fun _ _=>0) ⟨#[],args,[]⟩).memory:=by
  have e1:(laidP.filter fun x=>(laidP.map (·.1)).contains x.1)=laidP:=List.filter_eq_self.2 fun x hx=>List.contains_iff_mem.2 (List.mem_map.2 ⟨x,hx,rfl⟩)
  have e2:(laidP.filter fun x => !(laidP.map (·.1)).contains x.1)=[]:=List.filter_eq_nil_iff.2 fun x hx=>by rw [List.contains_iff_mem.2 (List.mem_map.2 ⟨x,hx,rfl⟩)];simp
  have h:laidMet Tryz.prog laidP (laidWorld os):=laidMet_layVars (w0:=handWorld os) (laidP.map (·.1)) [] (by rw [e1];rfl) (by rw [e1];kernel_rfl) (by rw [e1];kernel_rfl) (by rw [e2];exact LaidIn.none)
  exact laidMetH_of_parts (h.of_heap (by simp [World.memory,World.forCall,Input.heap])) (by kernel_rfl)
end Go.Proofs.YtjgeofdgdlmcoaaGreatDoor
