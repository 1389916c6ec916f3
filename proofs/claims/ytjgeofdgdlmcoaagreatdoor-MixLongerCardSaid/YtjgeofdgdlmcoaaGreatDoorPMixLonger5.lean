import Derived.Test.YtjgeofdgdlmcoaaGreatDoorPMixLonger4
import Derived.Test.YtjgeofdgdlmcoaaGreatDoorChecked
import Derived.Shelf.Strings.Search1
import Derived.Shelf.Strings.OnBuilder
import Derived.Shelf.Small.Strs
import Derived.Shelf.Bytes.IndexByte
import Derived.Shelf.LaysM
import Derived.Test.YtjgeofdgdlmcoaaGreatDoorProg
import Derived.Below
set_option linter.unusedVariables false
set_option linter.unusedSimpArgs false
set_option linter.unusedSectionVars false
namespace Go.Proofs.YtjgeofdgdlmcoaaGreatDoor
open Go Go.RK
open Go.RK.Uni (Ty El)
open Go.RK.Byt (bT)
theorem clone_tt {α:Type} (l:List α) (k:Nat) (h:l.length * k≤140737488355328):Tt (bif Nat.ble (Nat.mul (Nat.add 0 l.length) k) 140737488355328 then some l else none) fun y=>y=l:=by
  refine Tt.ok ?_ (Tt.ret rfl)
  rw [Nat.ble_eq]
  show (0+l.length) * k≤_
  rw [Nat.zero_add]
  exact h
theorem t_clBy (l:List (UInt8)) (h0:l.length≤140737488355328):Tt (α:=List (UInt8)) (f_clBy l) fun y=>y=l:=clone_tt l 1 (by omega)
theorem t_clPair (l:List (Pair)) (h0:l.length≤1000000):Tt (α:=List (Pair)) (f_clPair l) fun y=>y=l:=clone_tt l 32 (by omega)
theorem t_clInt (l:List (Int)) (h0:l.length≤1000000):Tt (α:=List (Int)) (f_clInt l) fun y=>y=l:=clone_tt l 8 (by omega)
theorem t_bClone (l:List (UInt8)) (h0:l.length≤1000000):Tt (α:=List (UInt8)) (f_bClone l) fun y=>y=l:=clone_tt l 1 (by omega)
theorem t_clCells (l:List (List Cell)) (h0:l.length≤1000000):Tt (α:=List (List Cell)) (f_clCells l) fun y=>y=l:=clone_tt l 24 (by omega)
theorem t_clCell (l:List (Cell)) (h0:l.length≤1000000):Tt (α:=List (Cell)) (f_clCell l) fun y=>y=l:=clone_tt l 32 (by omega)
theorem t_sized (a0:Int):Tt (f_sized a0) fun y=>y.1.1=true→a0=1∨a0=2∨a0=4:=by
 unfold f_sized
 refine Tt.bif (fun h=>?_) (fun h=>?_)
 exact Tt.ret (by grind)
 refine Tt.bif (fun h=>?_) (fun h=>?_)
 exact Tt.ret (by grind)
 refine Tt.bif (fun h=>?_) (fun h=>?_)
 exact Tt.ret (by grind)
 exact Tt.ret (by grind)
theorem t_frFeed (a0:Framer) (a1:List (UInt8)) (h0:a0.bytes.length≤1000000) (h1:a1.length≤1000000) (h2:0≤a0.room∧a0.room≤1000000):Tt (f_frFeed a0 a1) fun y=>y.2.1.bytes.length≤a0.bytes.length+a1.length∧y.2.1.room=a0.room∧y.2.1.typed=a0.typed∧y.2.1.most=a0.most:=by
 unfold f_frFeed
 refine Tt.bif (fun h=>?_) (fun h=>?_)
 exact Tt.ret (by grind)
 refine Tt.ok (by grind) ?_
 refine Tt.bif (fun h=>?_) (fun h=>?_)
 exact Tt.ret (by grind)
 refine Tt.ok (by grind) ?_
 exact Tt.ret (by grind)
theorem t_span (a0:Int) (h0:a0=1∨a0=2∨a0=4):Tt (f_span a0) fun y=>y.1.1=256∨y.1.1=65536∨y.1.1=4294967296:=by
 unfold f_span
 refine Tt.ok (by first | omega | (rcases h0 with rfl | rfl | rfl <;> simp)) ?_
 refine Tt.ok (by first | omega | (rcases h0 with rfl | rfl | rfl <;> simp)) ?_
 exact Tt.ret (by first | omega | (rcases h0 with rfl | rfl | rfl <;> simp))
theorem t_right (a0:Int) (a1:Int):Tt (f_right a0 a1) fun y=>y.1.1=true→a1=1∨a1=2∨a1=4:=by
 unfold f_right
 refine Tt.bnd (t_sized _) fun y0 hy0=>?_
 refine Tt.bif (fun h=>?_) (fun h=>?_)
 exact Tt.ret (by first | omega | grind | (rcases hy1 with h | h | h <;> rw [h] <;> rfl))
 refine Tt.bnd (t_span _ (by first | omega | grind | (rcases hy1 with h | h | h <;> rw [h] <;> rfl))) fun y1 hy1=>?_
 refine Tt.ok (by first | omega | grind | (rcases hy1 with h | h | h <;> rw [h] <;> rfl)) ?_
 refine Tt.bif (fun h=>?_) (fun h=>?_)
 refine Tt.bnd (t_span _ (by first | omega | grind | (rcases hy1 with h | h | h <;> rw [h] <;> rfl))) fun y2 hy2=>?_
 exact Tt.ret (by first | omega | grind | (rcases hy1 with h | h | h <;> rw [h] <;> rfl))
 exact Tt.ret (by first | omega | grind | (rcases hy1 with h | h | h <;> rw [h] <;> rfl))
theorem st_numGet_1 (n:Int) (t33:List (UInt8)) (t34:Int) (t35:Int) (h0:t33.length≤4) (h1:t34=t33.length) (h2:0≤t35∧t35≤t34) (h3:0≤n∧(t35=0→n=0)∧(t35=1→n < 256)∧(t35=2→n < 65536)∧(t35=3→n < 16777216)∧n < 4294967296):Tt (s_numGet_1 n t33 t34 t35) fun r=>match r with | .inl (n',t33',t34',t35',_)=>((t33'.length≤4)∧(t34'=t33'.length)∧(0≤t35'∧t35'≤t34')∧(0≤n'∧(t35'=0→n'=0)∧(t35'=1→n' < 256)∧(t35'=2→n' < 65536)∧(t35'=3→n' < 16777216)∧n' < 4294967296))∧(t34' - t35').toNat < (t34 - t35).toNat | .inr y=>0≤y.1∧y.1 < 4294967296:=by
 unfold s_numGet_1
 try dsimp only [El_by]
 refine Tt.bif (fun h=>?_) (fun h=>?_)
 refine Tt.ok (by first | omega | grind | (simp_all <;> omega) | (repeat' apply And.intro) <;> first | omega | grind | (simp_all <;> omega)) ?_
 refine Tt.ok (by first | omega | grind | (simp_all <;> omega) | (repeat' apply And.intro) <;> first | omega | grind | (simp_all <;> omega)) ?_
 refine Tt.ok (by first | omega | grind | (simp_all <;> omega) | (repeat' apply And.intro) <;> first | omega | grind | (simp_all <;> omega)) ?_
 refine Tt.ok (by first | omega | grind | (simp_all <;> omega) | (repeat' apply And.intro) <;> first | omega | grind | (simp_all <;> omega)) ?_
 exact Tt.ret (by first | omega | grind | (simp_all <;> omega) | (repeat' apply And.intro) <;> first | omega | grind | (simp_all <;> omega))
 exact Tt.ret (by first | omega | grind | (simp_all <;> omega) | (repeat' apply And.intro) <;> first | omega | grind | (simp_all <;> omega))
theorem lt_numGet_1 (n:Int) (t33:List (UInt8)) (t34:Int) (t35:Int) (h0:t33.length≤4) (h1:t34=t33.length) (h2:0≤t35∧t35≤t34) (h3:0≤n∧(t35=0→n=0)∧(t35=1→n < 256)∧(t35=2→n < 65536)∧(t35=3→n < 16777216)∧n < 4294967296):Tt (α:=(Int × Unit)) (lpF l_numGet_1.step (u_numGet_1 n t33 t34 t35) (n,(t33,(t34,(t35,()))))) fun y=>0≤y.1∧y.1 < 4294967296:=by
 refine Tt.lp (fun x=>(x.2.1.length≤4)∧(x.2.2.1=x.2.1.length)∧(0≤x.2.2.2.1∧x.2.2.2.1≤x.2.2.1)∧(0≤x.1∧(x.2.2.2.1=0→x.1=0)∧(x.2.2.2.1=1→x.1 < 256)∧(x.2.2.2.1=2→x.1 < 65536)∧(x.2.2.2.1=3→x.1 < 16777216)∧x.1 < 4294967296)) (fun x=>(x.2.2.1 - x.2.2.2.1).toNat) (fun x h=>(st_numGet_1 x.1 x.2.1 x.2.2.1 x.2.2.2.1 h.1 h.2.1 h.2.2.1 h.2.2.2).mono fun r hr=>?_) (by exact ⟨h0,h1,h2,h3⟩) (by unfold u_numGet_1;first | omega | grind | (simp_all <;> omega) | (repeat' apply And.intro) <;> first | omega | grind | (simp_all <;> omega))
 rcases r with r | r <;> exact hr
theorem t_numGet (a0:List (UInt8)) (a1:Int) (a2:Int) (h0:a0.length≤1000000):Tt (f_numGet a0 a1 a2) fun y=>0≤y.1.1∧y.1.1 < 4294967296:=by
 unfold f_numGet
 refine Tt.bnd (t_sized _) fun y0 hy0=>?_
 refine Tt.bif (fun h=>?_) (fun h=>?_)
 exact Tt.ret (by grind)
 refine Tt.bif (fun h=>?_) (fun h=>?_)
 exact Tt.ret (by grind)
 refine Tt.bif (fun h=>?_) (fun h=>?_)
 exact Tt.ret (by grind)
 refine Tt.ok (by grind) ?_
 refine Tt.bif (fun h=>?_) (fun h=>?_)
 exact Tt.ret (by grind)
 refine Tt.ok (by grind) ?_
 refine Tt.ok (by grind) ?_
 refine Tt.bnd (lt_numGet_1 _ _ _ _ (by grind) (by grind) (by grind) (by grind)) fun (y1:(Int × Unit)) hy1=>?_
 exact Tt.ret (by grind)
theorem t_signed (a0:Int) (a1:Int) (h0:0≤a0∧a0 < 4294967296):Tt (f_signed a0 a1) fun y=>True:=by
 unfold f_signed
 refine Tt.bnd (t_sized _) fun y0 hy0=>?_
 refine Tt.bif (fun h=>?_) (fun h=>?_)
 exact Tt.ret (by first | omega | grind | (rcases hy1 with h | h | h <;> rw [h] <;> rfl))
 refine Tt.bnd (t_span _ (by first | omega | grind | (rcases hy1 with h | h | h <;> rw [h] <;> rfl))) fun y1 hy1=>?_
 refine Tt.ok (by first | omega | grind | (rcases hy1 with h | h | h <;> rw [h] <;> rfl)) ?_
 refine Tt.bif (fun h=>?_) (fun h=>?_)
 refine Tt.bnd (t_span _ (by first | omega | grind | (rcases hy1 with h | h | h <;> rw [h] <;> rfl))) fun y2 hy2=>?_
 refine Tt.bif (fun h=>?_) (fun h=>?_)
 refine Tt.bnd (t_span _ (by first | omega | grind | (rcases hy1 with h | h | h <;> rw [h] <;> rfl))) fun y3 hy3=>?_
 refine Tt.ok (by first | omega | grind | (rcases hy1 with h | h | h <;> rw [h] <;> rfl)) ?_
 exact Tt.ret (by first | omega | grind | (rcases hy1 with h | h | h <;> rw [h] <;> rfl))
 exact Tt.ret (by first | omega | grind | (rcases hy1 with h | h | h <;> rw [h] <;> rfl))
 exact Tt.ret (by first | omega | grind | (rcases hy1 with h | h | h <;> rw [h] <;> rfl))
theorem st_numPut_0 (B:Nat) (n:Int) (out:List (UInt8)) (shift:Int) (h0 : -8≤shift∧shift≤56∧shift % 8=0) (h1:out.length+((shift+8) / 8).toNat≤B∧B≤200000000):Tt (s_numPut_0 n out shift) fun r=>match r with | .inl (n',out',shift',_)=>((-8≤shift'∧shift'≤56∧shift' % 8=0)∧(out'.length+((shift'+8) / 8).toNat≤B∧B≤200000000))∧((shift'+8) / 8).toNat < ((shift+8) / 8).toNat | .inr y=>y.1.length≤B:=by
 unfold s_numPut_0
 refine Tt.bif (fun h=>?_) (fun h=>?_)
 refine Tt.ok (by grind) ?_
 refine Tt.ok (by grind) ?_
 refine Tt.ok (by grind) ?_
 exact Tt.ret (by grind)
 exact Tt.ret (by grind)
theorem lt_numPut_0 (B:Nat) (n:Int) (out:List (UInt8)) (shift:Int) (h0 : -8≤shift∧shift≤56∧shift % 8=0) (h1:out.length+((shift+8) / 8).toNat≤B∧B≤200000000) (e0:8≤shift):Tt (α:=(List (UInt8) × Unit)) (lpF l_numPut_0.step (u_numPut_0 n out shift) (n,(out,(shift,())))) fun y=>y.1.length≤B:=by
 refine Tt.lp (fun x=>(-8≤x.2.2.1∧x.2.2.1≤56∧x.2.2.1 % 8=0)∧(x.2.1.length+((x.2.2.1+8) / 8).toNat≤B∧B≤200000000)) (fun x=>((x.2.2.1+8) / 8).toNat) (fun x h=>(st_numPut_0 B x.1 x.2.1 x.2.2.1 h.1 h.2).mono fun r hr=>?_) (by exact ⟨h0,h1⟩) (by unfold u_numPut_0;grind)
 rcases r with r | r <;> exact hr
theorem t_numPut (a0:List (UInt8)) (a1:Int) (a2:Int) (h0:a0.length≤100000000) (h1:a2=2∨a2=4):Tt (f_numPut a0 a1 a2) fun y=>y.1.1.length≤a0.length+4:=by
 unfold f_numPut
 refine Tt.ok (by grind) ?_
 refine Tt.bnd (t_right _ _) fun y0 hy0=>?_
 refine Tt.bif (fun h=>?_) (fun h=>?_)
 exact Tt.ret (by grind)
 refine Tt.ok (by grind) ?_
 refine Tt.ok (by grind) ?_
 refine Tt.bnd (lt_numPut_0 (a0.length+a2.toNat) _ _ _ (by grind) (by grind) (by grind)) fun (y1:(List (UInt8) × Unit)) hy1=>?_
 exact Tt.ret (by grind)
theorem t_frSize (a0:Framer) (h0:a0.bytes.length≤1000000):Tt (f_frSize a0) fun y=>0≤y.1.1∧y.1.1 < 4294967296∧y.2.1=a0:=by
 unfold f_frSize
 refine Tt.bif (fun h=>?_) (fun h=>?_)
 refine Tt.bnd (t_numGet _ _ _ (by grind)) fun y0 hy0=>?_
 exact Tt.ret (by grind)
 refine Tt.bnd (t_numGet _ _ _ (by grind)) fun y1 hy1=>?_
 exact Tt.ret (by grind)
theorem t_frWhole (a0:Framer) (h0:a0.bytes.length≤1000000):Tt (f_frWhole a0) fun y=>y.2.1.bytes=a0.bytes∧y.2.1.typed=a0.typed∧y.2.1.room=a0.room∧y.2.1.most=a0.most∧0≤y.1.1∧(y.1.2.1=true→4≤y.1.1∧(a0.typed=true→5≤y.1.1)∧y.1.1≤a0.bytes.length∧y.2.1=a0):=by
 unfold f_frWhole
 refine Tt.bif (fun h=>?_) (fun h=>?_)
 exact Tt.ret (by first | omega | grind | (cases a0;grind))
 refine Tt.bnd (t_frSize _ (by first | omega | grind | (cases a0;grind))) fun y0 hy0=>?_
 refine Tt.bif (fun h=>?_) (fun h=>?_)
 exact Tt.ret (by first | omega | grind | (cases a0;grind))
 refine Tt.bif (fun h=>?_) (fun h=>?_)
 exact Tt.ret (by first | omega | grind | (cases a0;grind))
 refine Tt.bif (fun h=>?_) (fun h=>?_)
 exact Tt.ret (by first | omega | grind | (cases a0;grind))
 refine Tt.bif (fun h=>?_) (fun h=>?_)
 refine Tt.ok (by first | omega | grind | (cases a0;grind)) ?_
 exact Tt.ret (by first | omega | grind | (cases a0;grind))
 refine Tt.ok (by first | omega | grind | (cases a0;grind)) ?_
 exact Tt.ret (by first | omega | grind | (cases a0;grind))
theorem t_frPeek (a0:Framer) (h0:a0.bytes.length≤1000000):Tt (f_frPeek a0) fun y=>y.2.1.bytes=a0.bytes∧y.2.1.typed=a0.typed∧y.2.1.room=a0.room∧y.2.1.most=a0.most∧y.1.1.body.length≤a0.bytes.length∧(y.1.2.1=true→y.2.1=a0∧y.1.1.body.length+4≤a0.bytes.length∧(a0.typed=true→y.1.1.body.length+5≤a0.bytes.length)):=by
 unfold f_frPeek
 try dsimp only [El_by]
 refine Tt.bif (fun h=>?_) (fun h=>?_)
 exact Tt.ret (by grind)
 refine Tt.bnd (t_frWhole _ (by grind)) fun y0 hy0=>?_
 refine Tt.bif (fun h=>?_) (fun h=>?_)
 exact Tt.ret (by grind)
 refine Tt.bif (fun h=>?_) (fun h=>?_)
 refine Tt.ok (by grind) ?_
 refine Tt.bnd (t_clBy _ (by grind)) fun (y1:List (UInt8)) hy1=>?_
 refine Tt.bif (fun h=>?_) (fun h=>?_)
 refine Tt.ok (by grind) ?_
 refine Tt.ok (by grind) ?_
 exact Tt.ret (by grind)
 exact Tt.ret (by grind)
 refine Tt.ok (by grind) ?_
 refine Tt.bnd (t_clBy _ (by grind)) fun (y2:List (UInt8)) hy2=>?_
 refine Tt.bif (fun h=>?_) (fun h=>?_)
 refine Tt.ok (by grind) ?_
 refine Tt.ok (by grind) ?_
 exact Tt.ret (by grind)
 exact Tt.ret (by grind)
theorem t_frBegin (a0:Framer):Tt (f_frBegin a0) fun y=>y.2.1.bytes=a0.bytes∧y.2.1.room=a0.room∧y.2.1.most=a0.most:=by
 unfold f_frBegin
 refine Tt.bif (fun h=>?_) (fun h=>?_)
 exact Tt.ret (by grind)
 exact Tt.ret (by grind)
theorem t_frBytes (a0:Msg) (h0:a0.body.length≤90000000):Tt (f_frBytes a0) fun y=>y.1.1.length≤a0.body.length+10:=by
 unfold f_frBytes
 refine Tt.bif (fun h=>?_) (fun h=>?_)
 refine Tt.ok (by grind) ?_
 refine Tt.bnd (t_numPut _ _ _ (by grind) (by grind)) fun y0 hy0=>?_
 refine Tt.ok (by grind) ?_
 exact Tt.ret (by grind)
 refine Tt.ok (by grind) ?_
 refine Tt.bnd (t_numPut _ _ _ (by grind) (by grind)) fun y1 hy1=>?_
 refine Tt.ok (by grind) ?_
 exact Tt.ret (by grind)
theorem t_scCut (a0:Scan) (a1:Int) (h0:a0.rest.length≤1000000):Tt (f_scCut a0 a1) fun y=>y.2.1.made=a0.made∧y.2.1.rest.length≤a0.rest.length∧y.1.1.length+y.2.1.rest.length≤a0.rest.length∧(y.1.2.1=true→y.1.1.length=a1∧0≤a1)∧(y.2.1.bad=false→a0.bad=false∧y.2.1.rest.length+a1=a0.rest.length)∧(a0.made=true→a0.bad=false→0≤a1→a1≤a0.rest.length→y.1.1.length=a1):=by
 unfold f_scCut
 refine Tt.bif (fun h=>?_) (fun h=>?_)
 refine Tt.bif (fun h=>?_) (fun h=>?_)
 exact Tt.ret (by grind)
 refine Tt.bif (fun h=>?_) (fun h=>?_)
 exact Tt.ret (by grind)
 refine Tt.bif (fun h=>?_) (fun h=>?_)
 exact Tt.ret (by grind)
 refine Tt.ok (by grind) ?_
 refine Tt.ok (by grind) ?_
 exact Tt.ret (by grind)
 exact Tt.ret (by grind)
theorem t_scNum (a0:Scan) (a1:Int) (h0:a0.rest.length≤1000000):Tt (f_scNum a0 a1) fun y=>y.2.1.made=a0.made∧y.2.1.rest.length≤a0.rest.length∧0≤y.1.1∧y.1.1 < 4294967296∧(y.2.1.bad=false→a0.bad=false∧y.2.1.rest.length+1≤a0.rest.length):=by
 unfold f_scNum
 refine Tt.bnd (t_right _ _) fun y0 hy0=>?_
 refine Tt.bif (fun h=>?_) (fun h=>?_)
 exact Tt.ret (by grind)
 refine Tt.bnd (t_scCut _ _ (by grind)) fun y1 hy1=>?_
 refine Tt.bif (fun h=>?_) (fun h=>?_)
 exact Tt.ret (by grind)
 refine Tt.bnd (t_numGet _ _ _ (by grind)) fun y2 hy2=>?_
 refine Tt.bif (fun h=>?_) (fun h=>?_)
 exact Tt.ret (by grind)
 exact Tt.ret (by grind)
theorem t_scTake (a0:Scan) (a1:Int) (h0:a0.rest.length≤1000000):Tt (f_scTake a0 a1) fun y=>y.2.1.made=a0.made∧y.1.1.length+y.2.1.rest.length≤a0.rest.length∧(y.2.1.bad=false→a0.bad=false):=by
 unfold f_scTake
 try dsimp only [El_by]
 refine Tt.bnd (t_scCut _ _ (by grind)) fun y0 hy0=>?_
 refine Tt.bnd (t_bClone _ (by grind)) fun (y1:List (UInt8)) hy1=>?_
 exact Tt.ret (by grind)
theorem t_scDone (a0:Scan):Tt (f_scDone a0) fun y=>y.2.1=a0:=by
 unfold f_scDone
 refine Tt.bif (fun h=>?_) (fun h=>?_)
 refine Tt.bif (fun h=>?_) (fun h=>?_)
 exact Tt.ret (by grind)
 exact Tt.ret (by grind)
 exact Tt.ret (by grind)
theorem t_scBad (a0:Scan):Tt (f_scBad a0) fun y=>y.2.1=a0∧(y.1.1=false→a0.bad=false):=by
 unfold f_scBad
 refine Tt.bif (fun h=>?_) (fun h=>?_)
 exact Tt.ret (by grind)
 exact Tt.ret (by grind)
theorem t_word (a0:List (UInt8)):Tt (f_word a0) fun y=>a0=[]→y.1.2.1=true:=by
 unfold f_word
 refine Tt.bif (fun h=>?_) (fun h=>?_)
 exact Tt.ret (by grind)
 refine Tt.bif (fun h=>?_) (fun h=>?_)
 exact Tt.ret (by grind)
 refine Tt.bif (fun h=>?_) (fun h=>?_)
 exact Tt.ret (by grind)
 refine Tt.bif (fun h=>?_) (fun h=>?_)
 exact Tt.ret (by grind)
 refine Tt.bif (fun h=>?_) (fun h=>?_)
 exact Tt.ret (by grind)
 refine Tt.bif (fun h=>?_) (fun h=>?_)
 exact Tt.ret (by grind)
 exact Tt.ret (by grind)
theorem st_code_0 (t11:List (UInt8)) (t12:Int) (t13:Int) (h0:t11.length=5) (h1:t12=t11.length) (h2:0≤t13∧t13≤t12):Tt (s_code_0 t11 t12 t13) fun r=>match r with | .inl (t11',t12',t13',_)=>((t11'.length=5)∧(t12'=t11'.length)∧(0≤t13'∧t13'≤t12'))∧(t12' - t13').toNat < (t12 - t13).toNat | .inr y=>True:=by
 unfold s_code_0
 try dsimp only [El_by]
 refine Tt.bif (fun h=>?_) (fun h=>?_)
 refine Tt.ok (by grind) ?_
 refine Tt.ok (by grind) ?_
 refine Tt.bif (fun h=>?_) (fun h=>?_)
 refine Tt.bif (fun h=>?_) (fun h=>?_)
 refine Tt.bif (fun h=>?_) (fun h=>?_)
 refine Tt.bif (fun h=>?_) (fun h=>?_)
 exact Tt.ret (by grind)
 refine Tt.ok (by grind) ?_
 exact Tt.ret (by grind)
 refine Tt.ok (by grind) ?_
 exact Tt.ret (by grind)
 refine Tt.bif (fun h=>?_) (fun h=>?_)
 exact Tt.ret (by grind)
 refine Tt.ok (by grind) ?_
 exact Tt.ret (by grind)
 refine Tt.bif (fun h=>?_) (fun h=>?_)
 refine Tt.bif (fun h=>?_) (fun h=>?_)
 exact Tt.ret (by grind)
 refine Tt.ok (by grind) ?_
 exact Tt.ret (by grind)
 exact Tt.ret (by grind)
 exact Tt.ret (by grind)
theorem lt_code_0 (t11:List (UInt8)) (t12:Int) (t13:Int) (h0:t11.length=5) (h1:t12=t11.length) (h2:0≤t13∧t13≤t12):Tt (α:=(Unit ⊕ (Bool × Unit))) (lpF l_code_0.step (u_code_0 t11 t12 t13) (t11,(t12,(t13,())))) fun y=>True:=by
 refine Tt.lp (fun x=>(x.1.length=5)∧(x.2.1=x.1.length)∧(0≤x.2.2.1∧x.2.2.1≤x.2.1)) (fun x=>(x.2.1 - x.2.2.1).toNat) (fun x h=>(st_code_0 x.1 x.2.1 x.2.2.1 h.1 h.2.1 h.2.2).mono fun r hr=>?_) (by exact ⟨h0,h1,h2⟩) (by unfold u_code_0;grind)
 rcases r with r | r <;> exact hr
theorem t_code (a0:List (UInt8)) (h0:a0.length≤1000000):Tt (f_code a0) fun y=>y.1.1=true→a0.length=5:=by
 unfold f_code
 refine Tt.bif (fun h=>?_) (fun h=>?_)
 exact Tt.ret (by grind)
 refine Tt.ok (by grind) ?_
 refine Tt.bnd (lt_code_0 _ _ _ (by grind) (by grind) (by grind)) fun (y0:(Unit ⊕ (Bool × Unit))) hy0=>?_
 rcases y0 with y1 | y1
 exact Tt.ret (by grind)
 exact Tt.ret (by grind)
def dg:Nat→Int
  | 0=>0
  | k+1=>10 * dg k+255
def dgI (t:Int):Int:=dg t.toNat
@[grind =] theorem dgI_succ {t:Int} (h:0≤t):dgI (t+1)=10 * dgI t+255:=by
  unfold dgI
  rw [show (t+1).toNat=t.toNat+1 by omega]
  rfl
@[grind =] theorem dgI_zero:dgI 0=0:=rfl
theorem dg_le {k:Nat} (h:k < 10):dg k≤28333333305:=by
  rcases k with _ | _ | _ | _ | _ | _ | _ | _ | _ | _ | k
  all_goals first | (exfalso;omega) | decide
@[grind =] theorem dgI_min {t:Int} (h:t < 10):dgI t=min (dgI t) 28333333305:=by
  have:dgI t≤28333333305:=dg_le (by omega)
  omega
theorem st_digParse_1 (s:List (UInt8)) (most:Int) (n:Int) (t26:Int) (t27:Int) (h0:s.length≤10) (h1:t26=s.length) (h2:0≤t27∧t27≤t26) (h3:0≤n∧n≤dgI t27):Tt (s_digParse_1 s most n t26 t27) fun r=>match r with | .inl (s',most',n',t26',t27',_)=>((s'.length≤10)∧(t26'=s'.length)∧(0≤t27'∧t27'≤t26')∧(0≤n'∧n'≤dgI t27'))∧(t26' - t27').toNat < (t26 - t27).toNat | .inr y=>match y with | .inl z=>0≤z.2.1 | .inr z=>z.2.1=false:=by
 unfold s_digParse_1
 refine Tt.bif (fun h=>?_) (fun h=>?_)
 refine Tt.ok (by grind) ?_
 refine Tt.bif (fun h=>?_) (fun h=>?_)
 exact Tt.ret (by grind)
 refine Tt.bif (fun h=>?_) (fun h=>?_)
 exact Tt.ret (by grind)
 refine Tt.ok (by grind) ?_
 refine Tt.ok (by grind) ?_
 refine Tt.ok (by grind) ?_
 refine Tt.ok (by grind) ?_
 exact Tt.ret (by grind)
 exact Tt.ret (by grind)
theorem lt_digParse_1 (s:List (UInt8)) (most:Int) (n:Int) (t26:Int) (t27:Int) (h0:s.length≤10) (h1:t26=s.length) (h2:0≤t27∧t27≤t26) (h3:0≤n∧n≤dgI t27):Tt (α:=((Int × (Int × Unit)) ⊕ (Int × (Bool × Unit)))) (lpF l_digParse_1.step (u_digParse_1 s most n t26 t27) (s,(most,(n,(t26,(t27,())))))) fun y=>match y with | .inl z=>0≤z.2.1 | .inr z=>z.2.1=false:=by
 refine Tt.lp (fun x=>(x.1.length≤10)∧(x.2.2.2.1=x.1.length)∧(0≤x.2.2.2.2.1∧x.2.2.2.2.1≤x.2.2.2.1)∧(0≤x.2.2.1∧x.2.2.1≤dgI x.2.2.2.2.1)) (fun x=>(x.2.2.2.1 - x.2.2.2.2.1).toNat) (fun x h=>(st_digParse_1 x.1 x.2.1 x.2.2.1 x.2.2.2.1 x.2.2.2.2.1 h.1 h.2.1 h.2.2.1 h.2.2.2).mono fun r hr=>?_) (by exact ⟨h0,h1,h2,h3⟩) (by unfold u_digParse_1;grind)
 rcases r with r | r <;> exact hr
theorem t_digParse (a0:List (UInt8)) (a1:Int) (h0:a0.length≤1000000):Tt (f_digParse a0 a1) fun y=>y.1.2.1=true→0≤y.1.1:=by
 unfold f_digParse
 refine Tt.bif (fun h=>?_) (fun h=>?_)
 exact Tt.ret (by first | omega | grind | (have:=@List.length_pos_iff _ a0;grind) | (simp_all <;> omega))
 refine Tt.bif (fun h=>?_) (fun h=>?_)
 exact Tt.ret (by first | omega | grind | (have:=@List.length_pos_iff _ a0;grind) | (simp_all <;> omega))
 refine Tt.ok (by first | omega | grind | (have:=@List.length_pos_iff _ a0;grind) | (simp_all <;> omega)) ?_
 refine Tt.bif (fun h=>?_) (fun h=>?_)
 refine Tt.bif (fun h=>?_) (fun h=>?_)
 exact Tt.ret (by first | omega | grind | (have:=@List.length_pos_iff _ a0;grind) | (simp_all <;> omega))
 refine Tt.bnd (lt_digParse_1 _ _ _ _ _ (by first | omega | grind | (have:=@List.length_pos_iff _ a0;grind) | (simp_all <;> omega)) (by first | omega | grind | (have:=@List.length_pos_iff _ a0;grind) | (simp_all <;> omega)) (by first | omega | grind | (have:=@List.length_pos_iff _ a0;grind) | (simp_all <;> omega)) (by first | omega | grind | (have:=@List.length_pos_iff _ a0;grind) | (simp_all <;> omega))) fun (y0:((Int × (Int × Unit)) ⊕ (Int × (Bool × Unit)))) hy0=>?_
 rcases y0 with y1 | y1
 refine Tt.bif (fun h=>?_) (fun h=>?_)
 exact Tt.ret (by first | omega | grind | (have:=@List.length_pos_iff _ a0;grind) | (simp_all <;> omega))
 exact Tt.ret (by first | omega | grind | (have:=@List.length_pos_iff _ a0;grind) | (simp_all <;> omega))
 exact Tt.ret (by first | omega | grind | (have:=@List.length_pos_iff _ a0;grind) | (simp_all <;> omega))
 refine Tt.bnd (lt_digParse_1 _ _ _ _ _ (by first | omega | grind | (have:=@List.length_pos_iff _ a0;grind) | (simp_all <;> omega)) (by first | omega | grind | (have:=@List.length_pos_iff _ a0;grind) | (simp_all <;> omega)) (by first | omega | grind | (have:=@List.length_pos_iff _ a0;grind) | (simp_all <;> omega)) (by first | omega | grind | (have:=@List.length_pos_iff _ a0;grind) | (simp_all <;> omega))) fun (y2:((Int × (Int × Unit)) ⊕ (Int × (Bool × Unit)))) hy2=>?_
 rcases y2 with y3 | y3
 refine Tt.bif (fun h=>?_) (fun h=>?_)
 exact Tt.ret (by first | omega | grind | (have:=@List.length_pos_iff _ a0;grind) | (simp_all <;> omega))
 exact Tt.ret (by first | omega | grind | (have:=@List.length_pos_iff _ a0;grind) | (simp_all <;> omega))
 exact Tt.ret (by first | omega | grind | (have:=@List.length_pos_iff _ a0;grind) | (simp_all <;> omega))
theorem st_idxInt_0 (s:List (Int)) (v:Int) (t7:Int) (t8:Int) (h0:t7=s.length∧s.length≤1000000) (h1:0≤t8∧t8≤t7):Tt (s_idxInt_0 s v t7 t8) fun r=>match r with | .inl (s',v',t7',t8',_)=>((t7'=s'.length∧s'.length≤1000000)∧(0≤t8'∧t8'≤t7'))∧(t7' - t8').toNat < (t7 - t8).toNat | .inr y=>True:=by
 unfold s_idxInt_0
 try dsimp only [El_int]
 refine Tt.bif (fun h=>?_) (fun h=>?_)
 refine Tt.ok (by grind) ?_
 refine Tt.bif (fun h=>?_) (fun h=>?_)
 exact Tt.ret (by grind)
 refine Tt.ok (by grind) ?_
 exact Tt.ret (by grind)
 exact Tt.ret (by grind)
theorem lt_idxInt_0 (s:List (Int)) (v:Int) (t7:Int) (t8:Int) (h0:t7=s.length∧s.length≤1000000) (h1:0≤t8∧t8≤t7):Tt (α:=(Unit ⊕ (Int × Unit))) (lpF l_idxInt_0.step (u_idxInt_0 s v t7 t8) (s,(v,(t7,(t8,()))))) fun y=>True:=by
 refine Tt.lp (fun x=>(x.2.2.1=x.1.length∧x.1.length≤1000000)∧(0≤x.2.2.2.1∧x.2.2.2.1≤x.2.2.1)) (fun x=>(x.2.2.1 - x.2.2.2.1).toNat) (fun x h=>(st_idxInt_0 x.1 x.2.1 x.2.2.1 x.2.2.2.1 h.1 h.2).mono fun r hr=>?_) (by exact ⟨h0,h1⟩) (by unfold u_idxInt_0;grind)
 rcases r with r | r <;> exact hr
theorem t_idxInt (a0:List (Int)) (a1:Int) (h0:a0.length≤1000000):Tt (f_idxInt a0 a1) fun y=>True:=by
 unfold f_idxInt
 refine Tt.bnd (lt_idxInt_0 _ _ _ _ (by grind) (by grind)) fun (y0:(Unit ⊕ (Int × Unit))) hy0=>?_
 rcases y0 with y1 | y1
 exact Tt.ret (by grind)
 exact Tt.ret (by grind)
theorem t_one (a0:Verb) (a1:List (Int)) (h0:a1.length≤1000000):Tt (f_one a0 a1) fun y=>True:=by
 unfold f_one
 refine Tt.bnd (t_idxInt _ _ (by grind)) fun y0 hy0=>?_
 exact Tt.ret (by grind)
theorem t_sqlPair (a0:List (UInt8)) (a1:List (UInt8)) (h0:a1.length≤1000000):Tt (f_sqlPair a0 a1) fun y=>0≤y.1.1.n∧y.1.1.code.length≤5:=by
 unfold f_sqlPair
 refine Tt.bif (fun h=>?_) (fun h=>?_)
 refine Tt.bnd (t_digParse _ _ (by grind)) fun y0 hy0=>?_
 refine Tt.bif (fun h=>?_) (fun h=>?_)
 exact Tt.ret (by grind)
 exact Tt.ret (by grind)
 refine Tt.bif (fun h=>?_) (fun h=>?_)
 refine Tt.bnd (t_code _ (by grind)) fun y1 hy1=>?_
 refine Tt.bif (fun h=>?_) (fun h=>?_)
 exact Tt.ret (by grind)
 exact Tt.ret (by grind)
 exact Tt.ret (by grind)
theorem t_txRight (a0:UInt8):Tt (f_txRight a0) fun y=>True:=by
 unfold f_txRight
 refine Tt.bif (fun h=>?_) (fun h=>?_)
 exact Tt.ret (by grind)
 refine Tt.bif (fun h=>?_) (fun h=>?_)
 exact Tt.ret (by grind)
 refine Tt.bif (fun h=>?_) (fun h=>?_)
 exact Tt.ret (by grind)
 exact Tt.ret (by grind)
theorem t_txFail (a0:UInt8):Tt (f_txFail a0) fun y=>True:=by
 unfold f_txFail
 refine Tt.bnd (t_txRight _) fun y0 hy0=>?_
 refine Tt.bif (fun h=>?_) (fun h=>?_)
 exact Tt.ret (by grind)
 refine Tt.bif (fun h=>?_) (fun h=>?_)
 exact Tt.ret (by grind)
 exact Tt.ret (by grind)
theorem t_txEnd (a0:UInt8) (a1:Verb):Tt (f_txEnd a0 a1) fun y=>y.1.1.length≤20:=by
 unfold f_txEnd
 refine Tt.bif (fun h=>?_) (fun h=>?_)
 exact Tt.ret (by first | omega | grind | (simp_all <;> omega) | (repeat' apply And.intro) <;> first | omega | grind | (simp_all <;> omega))
 refine Tt.bif (fun h=>?_) (fun h=>?_)
 exact Tt.ret (by first | omega | grind | (simp_all <;> omega) | (repeat' apply And.intro) <;> first | omega | grind | (simp_all <;> omega))
 exact Tt.ret (by first | omega | grind | (simp_all <;> omega) | (repeat' apply And.intro) <;> first | omega | grind | (simp_all <;> omega))
theorem t_txNext (a0:UInt8) (a1:Verb):Tt (f_txNext a0 a1) fun y=>y.1.2.1.length≤20:=by
 unfold f_txNext
 refine Tt.bnd (t_txRight _) fun y0 hy0=>?_
 refine Tt.bif (fun h=>?_) (fun h=>?_)
 refine Tt.bnd (t_one _ _ (by grind)) fun y1 hy1=>?_
 refine Tt.bif (fun h=>?_) (fun h=>?_)
 refine Tt.bnd (t_txEnd _ _) fun y2 hy2=>?_
 exact Tt.ret (by grind)
 refine Tt.bif (fun h=>?_) (fun h=>?_)
 exact Tt.ret (by grind)
 exact Tt.ret (by grind)
 refine Tt.bnd (t_one _ _ (by grind)) fun y3 hy3=>?_
 refine Tt.bif (fun h=>?_) (fun h=>?_)
 refine Tt.bnd (t_txEnd _ _) fun y4 hy4=>?_
 exact Tt.ret (by grind)
 refine Tt.bif (fun h=>?_) (fun h=>?_)
 exact Tt.ret (by grind)
 refine Tt.bif (fun h=>?_) (fun h=>?_)
 exact Tt.ret (by grind)
 exact Tt.ret (by grind)
end Go.Proofs.YtjgeofdgdlmcoaaGreatDoor
namespace Go.Proofs.YtjgeofdgdlmcoaaGreatDoor
open Go Go.RK
open Go.RK.Uni (Ty El)
open Go.RK.Byt (bT)
theorem fol:Tryz.prog.follows .mixedOrders=true:=by kernel_rfl
end Go.Proofs.YtjgeofdgdlmcoaaGreatDoor
namespace Go.Proofs.YtjgeofdgdlmcoaaGreatDoor
open Go Go.RK
open Go.RK.Uni (Ty El)
open Go.RK.Byt (bT)
instance:SlcC Tryz.prog 23:=⟨_,Tryz.underlying23⟩
instance:SlcC Tryz.prog 22:=⟨_,Tryz.underlying22⟩
instance:AggC Tryz.prog 28:=⟨fun w=>Tryz.isAgg28 w⟩
instance:SlcC Tryz.prog 28:=⟨_,Tryz.underlying28⟩
instance:AggC Tryz.prog 5:=⟨fun w=>Tryz.isAgg5 w⟩
instance:SlcC Tryz.prog 33:=⟨_,Tryz.underlying33⟩
instance:SlcC Tryz.prog 39:=⟨_,Tryz.underlying39⟩
instance:AggC Tryz.prog 43:=⟨fun w=>Tryz.isAgg43 w⟩
instance:FldC Tryz.prog 36 0 0:=⟨_,_,_,Tryz.underlying36,rfl,rfl,fun w=>Tryz.sizeOf3 w⟩
instance:AggC Tryz.prog 3:=⟨fun w=>Tryz.isAgg3 w⟩
instance:FldC Tryz.prog 36 1 1:=⟨_,_,_,Tryz.underlying36,rfl,rfl,fun w=>Tryz.sizeOf3 w⟩
instance:FldC Tryz.prog 71 3 4:=⟨_,_,_,Tryz.underlying71,rfl,rfl,fun w=>Tryz.sizeOf28 w⟩
instance:SlcC Tryz.prog 45:=⟨_,Tryz.underlying45⟩
instance:SlcC Tryz.prog 37:=⟨_,Tryz.underlying37⟩
instance:FldC Tryz.prog 53 0 0:=⟨_,_,_,Tryz.underlying53,rfl,rfl,fun w=>Tryz.sizeOf9 w⟩
instance:AggC Tryz.prog 9:=⟨fun w=>Tryz.isAgg9 w⟩
instance:FldC Tryz.prog 53 1 1:=⟨_,_,_,Tryz.underlying53,rfl,rfl,fun w=>Tryz.sizeOf9 w⟩
instance:FldC Tryz.prog 55 0 0:=⟨_,_,_,Tryz.underlying55,rfl,rfl,fun w=>Tryz.sizeOf3 w⟩
instance:FldC Tryz.prog 55 3 3:=⟨_,_,_,Tryz.underlying55,rfl,rfl,fun w=>Tryz.sizeOf37 w⟩
instance:AggC Tryz.prog 37:=⟨fun w=>Tryz.isAgg37 w⟩
instance:FldC Tryz.prog 55 1 1:=⟨_,_,_,Tryz.underlying55,rfl,rfl,fun w=>Tryz.sizeOf3 w⟩
instance:FldC Tryz.prog 55 2 2:=⟨_,_,_,Tryz.underlying55,rfl,rfl,fun w=>Tryz.sizeOf3 w⟩
instance:FldC Tryz.prog 58 0 0:=⟨_,_,_,Tryz.underlying58,rfl,rfl,fun w=>Tryz.sizeOf5 w⟩
instance:FldC Tryz.prog 58 1 1:=⟨_,_,_,Tryz.underlying58,rfl,rfl,fun w=>Tryz.sizeOf28 w⟩
instance:FldC Tryz.prog 71 0 0:=⟨_,_,_,Tryz.underlying71,rfl,rfl,fun w=>Tryz.sizeOf69 w⟩
instance:FldC Tryz.prog 69 0 0:=⟨_,_,_,Tryz.underlying69,rfl,rfl,fun w=>Tryz.sizeOf66 w⟩
instance:AggC Tryz.prog 66:=⟨fun w=>Tryz.isAgg66 w⟩
instance:FldC Tryz.prog 78 0 0:=⟨_,_,_,Tryz.underlying78,rfl,rfl,fun w=>Tryz.sizeOf5 w⟩
instance:FldC Tryz.prog 78 3 3:=⟨_,_,_,Tryz.underlying78,rfl,rfl,fun w=>Tryz.sizeOf9 w⟩
instance:FldC Tryz.prog 78 4 4:=⟨_,_,_,Tryz.underlying78,rfl,rfl,fun w=>Tryz.sizeOf9 w⟩
instance:FldC Tryz.prog 78 5 5:=⟨_,_,_,Tryz.underlying78,rfl,rfl,fun w=>Tryz.sizeOf3 w⟩
instance:FldC Tryz.prog 78 6 6:=⟨_,_,_,Tryz.underlying78,rfl,rfl,fun w=>Tryz.sizeOf3 w⟩
instance:FldC Tryz.prog 78 1 1:=⟨_,_,_,Tryz.underlying78,rfl,rfl,fun w=>Tryz.sizeOf5 w⟩
instance:FldC Tryz.prog 78 2 2:=⟨_,_,_,Tryz.underlying78,rfl,rfl,fun w=>Tryz.sizeOf9 w⟩
instance:FldC Tryz.prog 78 9 9:=⟨_,_,_,Tryz.underlying78,rfl,rfl,fun w=>Tryz.sizeOf75 w⟩
instance:AggC Tryz.prog 75:=⟨fun w=>Tryz.isAgg75 w⟩
instance:FldC Tryz.prog 78 8 8:=⟨_,_,_,Tryz.underlying78,rfl,rfl,fun w=>Tryz.sizeOf74 w⟩
instance:AggC Tryz.prog 74:=⟨fun w=>Tryz.isAgg74 w⟩
instance:FldC Tryz.prog 78 7 7:=⟨_,_,_,Tryz.underlying78,rfl,rfl,fun w=>Tryz.sizeOf33 w⟩
instance:AggC Tryz.prog 33:=⟨fun w=>Tryz.isAgg33 w⟩
instance:FldC Tryz.prog 78 10 10:=⟨_,_,_,Tryz.underlying78,rfl,rfl,fun w=>Tryz.sizeOf76 w⟩
instance:AggC Tryz.prog 76:=⟨fun w=>Tryz.isAgg76 w⟩
instance:FldC Tryz.prog 111 0 0:=⟨_,_,_,Tryz.underlying111,rfl,rfl,fun w=>Tryz.sizeOf107 w⟩
instance:AggC Tryz.prog 107:=⟨fun w=>Tryz.isAgg107 w⟩
instance:FldC Tryz.prog 71 5 6:=⟨_,_,_,Tryz.underlying71,rfl,rfl,fun w=>Tryz.sizeOf4 w⟩
instance:AggC Tryz.prog 4:=⟨fun w=>Tryz.isAgg4 w⟩
instance:FldC Tryz.prog 121 0 0:=⟨_,_,_,Tryz.underlying121,rfl,rfl,fun w=>Tryz.sizeOf3 w⟩
instance:FldC Tryz.prog 121 1 1:=⟨_,_,_,Tryz.underlying121,rfl,rfl,fun w=>Tryz.sizeOf55 w⟩
instance:FldC Tryz.prog 69 1 1:=⟨_,_,_,Tryz.underlying69,rfl,rfl,fun w=>Tryz.sizeOf67 w⟩
instance:AggC Tryz.prog 67:=⟨fun w=>Tryz.isAgg67 w⟩
instance:FldC Tryz.prog 121 2 5:=⟨_,_,_,Tryz.underlying121,rfl,rfl,fun w=>Tryz.sizeOf119 w⟩
instance:FldC Tryz.prog 71 4 5:=⟨_,_,_,Tryz.underlying71,rfl,rfl,fun w=>Tryz.sizeOf3 w⟩
instance:SlcC Tryz.prog 75:=⟨_,Tryz.underlying75⟩
instance:FldC Tryz.prog 135 0 0:=⟨_,_,_,Tryz.underlying135,rfl,rfl,fun w=>Tryz.sizeOf4 w⟩
instance:FldC Tryz.prog 135 1 1:=⟨_,_,_,Tryz.underlying135,rfl,rfl,fun w=>Tryz.sizeOf28 w⟩
instance:SlcC Tryz.prog 74:=⟨_,Tryz.underlying74⟩
instance:FldC Tryz.prog 137 0 0:=⟨_,_,_,Tryz.underlying137,rfl,rfl,fun w=>Tryz.sizeOf9 w⟩
instance:FldC Tryz.prog 137 1 1:=⟨_,_,_,Tryz.underlying137,rfl,rfl,fun w=>Tryz.sizeOf3 w⟩
instance:FldC Tryz.prog 137 2 2:=⟨_,_,_,Tryz.underlying137,rfl,rfl,fun w=>Tryz.sizeOf3 w⟩
instance:FldC Tryz.prog 137 3 3:=⟨_,_,_,Tryz.underlying137,rfl,rfl,fun w=>Tryz.sizeOf3 w⟩
instance:FldC Tryz.prog 137 4 4:=⟨_,_,_,Tryz.underlying137,rfl,rfl,fun w=>Tryz.sizeOf3 w⟩
instance:FldC Tryz.prog 137 5 5:=⟨_,_,_,Tryz.underlying137,rfl,rfl,fun w=>Tryz.sizeOf3 w⟩
instance:FldC Tryz.prog 137 6 6:=⟨_,_,_,Tryz.underlying137,rfl,rfl,fun w=>Tryz.sizeOf3 w⟩
instance:SlcC Tryz.prog 76:=⟨_,Tryz.underlying76⟩
instance:FldC Tryz.prog 139 0 0:=⟨_,_,_,Tryz.underlying139,rfl,rfl,fun w=>Tryz.sizeOf5 w⟩
instance:FldC Tryz.prog 139 1 1:=⟨_,_,_,Tryz.underlying139,rfl,rfl,fun w=>Tryz.sizeOf9 w⟩
instance:StrC Tryz.prog 9:=⟨Tryz.underlying9⟩
instance:FldC Tryz.prog 144 3 3:=⟨_,_,_,Tryz.underlying144,rfl,rfl,fun w=>Tryz.sizeOf3 w⟩
instance:FldC Tryz.prog 144 1 1:=⟨_,_,_,Tryz.underlying144,rfl,rfl,fun w=>Tryz.sizeOf28 w⟩
instance:FldC Tryz.prog 71 1 2:=⟨_,_,_,Tryz.underlying71,rfl,rfl,fun w=>Tryz.sizeOf37 w⟩
instance:FldC Tryz.prog 71 2 3:=⟨_,_,_,Tryz.underlying71,rfl,rfl,fun w=>Tryz.sizeOf3 w⟩
instance:FldC Tryz.prog 119 0 0:=⟨_,_,_,Tryz.underlying119,rfl,rfl,fun w=>Tryz.sizeOf5 w⟩
instance:FldC Tryz.prog 117 5 5:=⟨_,_,_,Tryz.underlying117,rfl,rfl,fun w=>Tryz.sizeOf4 w⟩
instance:FldC Tryz.prog 117 4 4:=⟨_,_,_,Tryz.underlying117,rfl,rfl,fun w=>Tryz.sizeOf4 w⟩
instance:FldC Tryz.prog 163 0 0:=⟨_,_,_,Tryz.underlying163,rfl,rfl,fun w=>Tryz.sizeOf28 w⟩
instance:FldC Tryz.prog 111 1 1:=⟨_,_,_,Tryz.underlying111,rfl,rfl,fun w=>Tryz.sizeOf4 w⟩
instance:FldC Tryz.prog 144 0 0:=⟨_,_,_,Tryz.underlying144,rfl,rfl,fun w=>Tryz.sizeOf142 w⟩
instance:FldC Tryz.prog 142 0 0:=⟨_,_,_,Tryz.underlying142,rfl,rfl,fun w=>Tryz.sizeOf4 w⟩
instance:FldC Tryz.prog 117 2 2:=⟨_,_,_,Tryz.underlying117,rfl,rfl,fun w=>Tryz.sizeOf59 w⟩
instance:AggC Tryz.prog 59:=⟨fun w=>Tryz.isAgg59 w⟩
instance:FldC Tryz.prog 117 3 3:=⟨_,_,_,Tryz.underlying117,rfl,rfl,fun w=>Tryz.sizeOf5 w⟩
instance:FldC Tryz.prog 117 1 1:=⟨_,_,_,Tryz.underlying117,rfl,rfl,fun w=>Tryz.sizeOf114 w⟩
instance:AggC Tryz.prog 114:=⟨fun w=>Tryz.isAgg114 w⟩
instance:AggC Tryz.prog 181:=⟨fun w=>Tryz.isAgg181 w⟩
instance:FldC Tryz.prog 157 0 0:=⟨_,_,_,Tryz.underlying157,rfl,rfl,fun w=>Tryz.sizeOf9 w⟩
instance:FldC Tryz.prog 157 1 1:=⟨_,_,_,Tryz.underlying157,rfl,rfl,fun w=>Tryz.sizeOf9 w⟩
instance:FldC Tryz.prog 144 4 4:=⟨_,_,_,Tryz.underlying144,rfl,rfl,fun w=>Tryz.sizeOf49 w⟩
instance:AggC Tryz.prog 49:=⟨fun w=>Tryz.isAgg49 w⟩
instance:FldC Tryz.prog 147 0 0:=⟨_,_,_,Tryz.underlying147,rfl,rfl,fun w=>Tryz.sizeOf145 w⟩
instance:AggC Tryz.prog 145:=⟨fun w=>Tryz.isAgg145 w⟩
instance:FldC Tryz.prog 119 2 2:=⟨_,_,_,Tryz.underlying119,rfl,rfl,fun w=>Tryz.sizeOf9 w⟩
instance:FldC Tryz.prog 117 0 0:=⟨_,_,_,Tryz.underlying117,rfl,rfl,fun w=>Tryz.sizeOf113 w⟩
instance:AggC Tryz.prog 113:=⟨fun w=>Tryz.isAgg113 w⟩
instance:FldC Tryz.prog 119 4 4:=⟨_,_,_,Tryz.underlying119,rfl,rfl,fun w=>Tryz.sizeOf9 w⟩
instance:FldC Tryz.prog 119 5 5:=⟨_,_,_,Tryz.underlying119,rfl,rfl,fun w=>Tryz.sizeOf33 w⟩
instance:FldC Tryz.prog 119 8 8:=⟨_,_,_,Tryz.underlying119,rfl,rfl,fun w=>Tryz.sizeOf75 w⟩
instance:FldC Tryz.prog 206 1 1:=⟨_,_,_,Tryz.underlying206,rfl,rfl,fun w=>Tryz.sizeOf33 w⟩
instance:FldC Tryz.prog 119 3 3:=⟨_,_,_,Tryz.underlying119,rfl,rfl,fun w=>Tryz.sizeOf9 w⟩
instance:FldC Tryz.prog 119 1 1:=⟨_,_,_,Tryz.underlying119,rfl,rfl,fun w=>Tryz.sizeOf5 w⟩
instance:FldC Tryz.prog 218 0 0:=⟨_,_,_,Tryz.underlying218,rfl,rfl,fun w=>Tryz.sizeOf206 w⟩
instance:FldC Tryz.prog 206 0 0:=⟨_,_,_,Tryz.underlying206,rfl,rfl,fun w=>Tryz.sizeOf9 w⟩
instance:FldC Tryz.prog 218 3 4:=⟨_,_,_,Tryz.underlying218,rfl,rfl,fun w=>Tryz.sizeOf4 w⟩
instance:FldC Tryz.prog 218 1 2:=⟨_,_,_,Tryz.underlying218,rfl,rfl,fun w=>Tryz.sizeOf75 w⟩
instance:FldC Tryz.prog 119 9 9:=⟨_,_,_,Tryz.underlying119,rfl,rfl,fun w=>Tryz.sizeOf3 w⟩
instance:FldC Tryz.prog 223 0 0:=⟨_,_,_,Tryz.underlying223,rfl,rfl,fun w=>Tryz.sizeOf3 w⟩
instance:SlcC Tryz.prog 246:=⟨_,Tryz.underlying246⟩
instance:AggC Tryz.prog 153:=⟨fun w=>Tryz.isAgg153 w⟩
instance:FldC Tryz.prog 263 0 0:=⟨_,_,_,Tryz.underlying263,rfl,rfl,fun w=>Tryz.sizeOf260 w⟩
instance:AggC Tryz.prog 260:=⟨fun w=>Tryz.isAgg260 w⟩
instance:FldC Tryz.prog 144 2 2:=⟨_,_,_,Tryz.underlying144,rfl,rfl,fun w=>Tryz.sizeOf3 w⟩
instance:FldC Tryz.prog 218 2 3:=⟨_,_,_,Tryz.underlying218,rfl,rfl,fun w=>Tryz.sizeOf216 w⟩
instance:FldC Tryz.prog 223 1 1:=⟨_,_,_,Tryz.underlying223,rfl,rfl,fun w=>Tryz.sizeOf3 w⟩
instance:SlcC Tryz.prog 216:=⟨_,Tryz.underlying216⟩
instance:FldC Tryz.prog 218 4 5:=⟨_,_,_,Tryz.underlying218,rfl,rfl,fun w=>Tryz.sizeOf4 w⟩
instance:AggC Tryz.prog 216:=⟨fun w=>Tryz.isAgg216 w⟩
instance:FldC Tryz.prog 223 2 2:=⟨_,_,_,Tryz.underlying223,rfl,rfl,fun w=>Tryz.sizeOf9 w⟩
instance:AggC Tryz.prog 190:=⟨fun w=>Tryz.isAgg190 w⟩
instance:AggC Tryz.prog 192:=⟨fun w=>Tryz.isAgg192 w⟩
instance:AggC Tryz.prog 194:=⟨fun w=>Tryz.isAgg194 w⟩
instance:AggC Tryz.prog 140:=⟨fun w=>Tryz.isAgg140 w⟩
instance:FldC Tryz.prog 119 6 6:=⟨_,_,_,Tryz.underlying119,rfl,rfl,fun w=>Tryz.sizeOf33 w⟩
instance:FldC Tryz.prog 119 7 7:=⟨_,_,_,Tryz.underlying119,rfl,rfl,fun w=>Tryz.sizeOf33 w⟩
instance:FldC Tryz.prog 301 0 0:=⟨_,_,_,Tryz.underlying301,rfl,rfl,fun w=>Tryz.sizeOf28 w⟩
instance:FldC Tryz.prog 91 0 0:=⟨_,_,_,Tryz.underlying91,rfl,rfl,fun w=>Tryz.sizeOf84 w⟩
instance:AggC Tryz.prog 84:=⟨fun w=>Tryz.isAgg84 w⟩
instance:FldC Tryz.prog 91 1 1:=⟨_,_,_,Tryz.underlying91,rfl,rfl,fun w=>Tryz.sizeOf89 w⟩
instance:FldC Tryz.prog 253 0 0:=⟨_,_,_,Tryz.underlying253,rfl,rfl,fun w=>Tryz.sizeOf3 w⟩
instance:FldC Tryz.prog 253 1 1:=⟨_,_,_,Tryz.underlying253,rfl,rfl,fun w=>Tryz.sizeOf3 w⟩
instance:FldC Tryz.prog 253 2 2:=⟨_,_,_,Tryz.underlying253,rfl,rfl,fun w=>Tryz.sizeOf3 w⟩
instance:FldC Tryz.prog 301 2 2:=⟨_,_,_,Tryz.underlying301,rfl,rfl,fun w=>Tryz.sizeOf4 w⟩
instance:FldC Tryz.prog 301 1 1:=⟨_,_,_,Tryz.underlying301,rfl,rfl,fun w=>Tryz.sizeOf4 w⟩
instance:SlcC Tryz.prog 314:=⟨_,Tryz.underlying314⟩
instance:FldC Tryz.prog 318 1 1:=⟨_,_,_,Tryz.underlying318,rfl,rfl,fun w=>Tryz.sizeOf28 w⟩
instance:FldC Tryz.prog 89 2 0:=⟨_,_,_,Tryz.underlying89,rfl,rfl,fun w=>Tryz.sizeOf2 w⟩
instance:SlcC Tryz.prog 294:=⟨_,Tryz.underlying294⟩
instance:FldC Tryz.prog 318 0 0:=⟨_,_,_,Tryz.underlying318,rfl,rfl,fun w=>Tryz.sizeOf316 w⟩
instance:AggC Tryz.prog 316:=⟨fun w=>Tryz.isAgg316 w⟩
instance:FldC Tryz.prog 356 0 0:=⟨_,_,_,Tryz.underlying356,rfl,rfl,fun w=>Tryz.sizeOf5 w⟩
instance:FldC Tryz.prog 356 1 1:=⟨_,_,_,Tryz.underlying356,rfl,rfl,fun w=>Tryz.sizeOf5 w⟩
end Go.Proofs.YtjgeofdgdlmcoaaGreatDoor
namespace Go.Proofs.YtjgeofdgdlmcoaaGreatDoor
open Go Go.RK
open Go.RK.Uni (Ty El)
open Go.RK.Byt (bT)
def rdig (m:Nat):List UInt8:=if m < 10 then [UInt8.ofNat (48+m)] else UInt8.ofNat (48+m % 10) :: rdig (m / 10)
def dig (m:Nat):List UInt8:=(rdig m).reverse
def deci (n:Int):List UInt8:=if n < 0 then 45 :: dig n.natAbs else dig n.natAbs
theorem rdig_lt {m:Nat} (h:m < 10):rdig m=[UInt8.ofNat (48+m)]:=by unfold rdig;rw [if_pos h]
theorem rdig_ge {m:Nat} (h:¬ m < 10):rdig m=UInt8.ofNat (48+m % 10) :: rdig (m / 10):=by rw [rdig,if_neg h]
theorem rdig_len (k m:Nat) (h:m < 10 ^ (k+1)):(rdig m).length≤k+1:=by
  induction k generalizing m with
  | zero=>rw [rdig_lt (by omega)];simp
  | succ k ih =>
    by_cases h1:m < 10
    · rw [rdig_lt h1];simp
    · rw [rdig_ge h1]
      have:m / 10 < 10 ^ (k+1):=by
        rw [Nat.div_lt_iff_lt_mul (by omega)]
        rw [Nat.pow_succ] at h
        exact h
      have:=ih _ this
      simp;omega
theorem rdig_len20 (m:Nat) (h:m≤9223372036854775808):(rdig m).length≤20:=rdig_len 19 m (by omega)
theorem dig_len (m:Nat) (h:m≤9223372036854775808):(dig m).length≤20:=by unfold dig;simpa using rdig_len20 m h
theorem rdig_pos (m:Nat):0 < (rdig m).length:=by unfold rdig;split <;> simp
theorem deci_len (n:Int) (h:n.natAbs≤9223372036854775808):(deci n).length≤21:=by
  have:=dig_len _ h
  unfold deci
  split <;> simp <;> omega
theorem by_dig (m:Nat):By (UInt8.ofNat (48+m % 10))=.int .u8 (48+(m % 10:Nat)):=by
  have:(UInt8.ofNat (48+m % 10)).toNat=48+m % 10:=by simp;omega
  unfold By
  rw [this]
  simp
theorem tdiv_neg10 (m:Nat):(-(m:Int)).tdiv 10 = -((m / 10:Nat):Int):=by rw [Int.neg_tdiv];rfl
theorem tmod_neg10 (m:Nat):(-(m:Int)).tmod 10 = -((m % 10:Nat):Int):=by rw [Int.neg_tmod];rfl
def Bl (h:Heap) (b:Nat) (v:Value) (bs:List UInt8):Prop:=(∃ p,h[b]?=some (.cells ⟨[p,v]⟩ 318 (0,0))∧(p=.pointer none∨p=.pointer (some ⟨b,0,none⟩)))∧Own h v 5 1 bs.length (bys bs)∧(bs=[]→v=.slice none 0 0)
theorem noEscape (v:Value) (w:World):(callFunc 283 #[v]).run Tryz.prog w=.ok (.value v) w:=by
  rw [run_callFunc_extern (P:=Tryz.prog) (fn:=Tryz.f283) (e:=Extern.AbiNoEscape.same) (by kernel_rfl) (by kernel_rfl) rfl (by kernel_rfl) (by kernel_rfl)]
  rfl
set_option maxHeartbeats 2000000 in
set_option maxRecDepth 100000 in
theorem copyCheck {h : Heap} {b : Nat} {v : Value} {bs : List UInt8} (r : Bl h b v bs) :
    CallsH Tryz.prog 271 ⟨[.pointer (some ⟨b,0,none⟩)]⟩ h fun u h'=>u=.tuple ⟨[]⟩∧h'[b]?=some (.cells ⟨[.pointer (some ⟨b,0,none⟩),v]⟩ 318 (0,0))∧Ext (fun k=>k=b) h h':=by
  obtain ⟨⟨p,hb,rfl | rfl⟩,ho,_⟩:=r
  · obtain ⟨A,c,rfl,_⟩:=ho.slice
    refine calls [(0,_)] Tryz.func271 rfl Tryz.ntmps271 rfl ⟨rfl,trivial⟩ ?_
    all_goals (refine WC.sr ?_)
    all_goals (refine Go ?_)
    all_goals (refine WL.step (ok_nilCheck rfl) rfl rfl rfl ?_)
    all_goals (refine Go ?_)
    all_goals (refine Ld ?_)
    all_goals (refine WL.step (ok_eqlPn Tryz.underlying316 rfl rfl) rfl rfl rfl ?_)
    all_goals (refine Gn ?_)
    all_goals (refine Gs [(0,_),(6,_)] ?_)
    all_goals (refine goC 1 2 ?_ ?_ <;> first | exact ⟨⟩ | refine Hb.mk fun hb=>?_ | skip)
    all_goals (first | (fail_if_success refine goB 1 ?_) | (
    refine goB 1 ?_
    all_goals (refine WC.region ?_)
    all_goals (refine Go ?_)
    all_goals (refine WL.step (ok_toUnsafe Tryz.underlying316 Tryz.underlying175 (show Tryz.prog.info? 318=some Tryz.t318 by kernel_rfl) (by decide) rfl (by assumption) (Nat.le_of_ble_eq_true rfl)) rfl rfl rfl ?_)
    all_goals (refine WL.step (ok_extern (fun w=>noEscape _ w) rfl) rfl rfl rfl ?_)
    all_goals (refine WL.step (ok_fromUnsafe Tryz.underlying175 Tryz.underlying316 (show Tryz.prog.info? 318=some Tryz.t318 by kernel_rfl) rfl (by assumption) (by kernel_rfl)) rfl rfl rfl ?_)
    all_goals (refine WL.step (ok_nilCheck rfl) rfl rfl rfl ?_)
    all_goals (refine Go ?_)
    all_goals (refine WL.stepR0 (okE_store (fun w => Tryz.sizeOf316 w) rfl rfl (by assumption) (Nat.le_of_ble_eq_true rfl) rfl rfl) rfl rfl ?_
               rintro _ h1 ⟨hb1,hx1⟩)
    all_goals (refine Gn ?_)
    skip))
    all_goals (first | (fail_if_success refine goB 2 ?_) | (
    refine goB 2 ?_
    all_goals (refine WC.sr ?_)
    all_goals (refine Go ?_)
    all_goals (refine WL.step (ok_nilCheck rfl) rfl rfl rfl ?_)
    all_goals (refine Go ?_)
    all_goals (refine Ld ?_)
    all_goals (refine Go ?_)
    all_goals (refine WL.step (ok_neqPn Tryz.underlying316 rfl rfl) rfl rfl rfl ?_)
    all_goals (refine Gn ?_)
    all_goals (refine Gs [(19,_)] ?_)
    all_goals (refine goC 3 4 ?_ ?_ <;> first | exact ⟨⟩ | refine Hb.mk fun hb=>?_ | skip)
    all_goals (first | (fail_if_success refine goB 3 ?_) | (
    refine goB 3 ?_
    fail "refused"
    skip))
    all_goals (first | (fail_if_success refine goB 4 ?_) | (
    refine goB 4 ?_
    all_goals (refine WC.skip ?_)
    skip))
    skip))
    all_goals (refine Gn ?_)
    all_goals (refine retP_n [] trivial ?_)
    all_goals (exact ⟨rfl,hb1,hx1⟩)
  · obtain ⟨A,c,rfl,_⟩:=ho.slice
    refine calls [(0,_)] Tryz.func271 rfl Tryz.ntmps271 rfl ⟨rfl,trivial⟩ ?_
    all_goals (refine WC.sr ?_)
    all_goals (refine Go ?_)
    all_goals (refine WL.step (ok_nilCheck rfl) rfl rfl rfl ?_)
    all_goals (refine Go ?_)
    all_goals (refine Ld ?_)
    all_goals (refine WL.step (ok_eqlPn Tryz.underlying316 rfl rfl) rfl rfl rfl ?_)
    all_goals (refine Gn ?_)
    all_goals (refine Gs [(0,_),(6,_)] ?_)
    all_goals (refine goC 1 2 ?_ ?_ <;> first | exact ⟨⟩ | refine Hb.mk fun hb=>?_ | skip)
    all_goals (first | (fail_if_success refine goB 1 ?_) | (
    refine goB 1 ?_
    all_goals (refine WC.region ?_)
    all_goals (refine Go ?_)
    all_goals (refine WL.step (ok_toUnsafe Tryz.underlying316 Tryz.underlying175 (show Tryz.prog.info? 318=some Tryz.t318 by kernel_rfl) (by decide) rfl (by assumption) (Nat.le_of_ble_eq_true rfl)) rfl rfl rfl ?_)
    all_goals (refine WL.step (ok_extern ? rfl) rfl rfl rfl ?_)
    all_goals (refine WL.step (ok_fromUnsafe Tryz.underlying175 Tryz.underlying316 (show Tryz.prog.info? 318=some Tryz.t318 by kernel_rfl) rfl (by assumption) (by kernel_rfl)) rfl rfl rfl ?_)
    all_goals (refine WL.step (ok_nilCheck rfl) rfl rfl rfl ?_)
    all_goals (refine Go ?_)
    all_goals (refine WL.stepR0 (okE_store (fun w => Tryz.sizeOf316 w) rfl rfl (by assumption) (Nat.le_of_ble_eq_true rfl) rfl rfl) rfl rfl ?_
               rintro _ h1 ⟨hb1,hx1⟩)
    all_goals (refine Gn ?_)
    skip))
    all_goals (first | (fail_if_success refine goB 2 ?_) | (
    refine goB 2 ?_
    all_goals (refine WC.sr ?_)
    all_goals (refine Go ?_)
    all_goals (refine WL.step (ok_nilCheck rfl) rfl rfl rfl ?_)
    all_goals (refine Go ?_)
    all_goals (refine Ld ?_)
    all_goals (refine Go ?_)
    all_goals (refine WL.step (ok_neqPs Tryz.underlying316 (show Tryz.prog.info? 318=some Tryz.t318 by kernel_rfl) rfl rfl) rfl rfl rfl ?_)
    all_goals (refine Gn ?_)
    all_goals (refine Gs [(19,_)] ?_)
    all_goals (refine goC 3 4 ?_ ?_ <;> first | exact ⟨⟩ | refine Hb.mk fun hb=>?_ | skip)
    all_goals (first | (fail_if_success refine goB 3 ?_) | (
    refine goB 3 ?_
    fail "refused"
    skip))
    all_goals (first | (fail_if_success refine goB 4 ?_) | (
    refine goB 4 ?_
    all_goals (refine WC.skip ?_)
    skip))
    skip))
    all_goals (refine Gn ?_)
    all_goals (refine retP_n [] trivial ?_)
    all_goals (exact ⟨rfl,hb,.refl _ _⟩)
set_option maxHeartbeats 2000000 in
set_option maxRecDepth 100000 in
theorem writeByte {h : Heap} {b : Nat} {v : Value} {bs : List UInt8} (r : Bl h b v bs) (c : UInt8) (hm : bs.length ≤ 1000000) :
    CallsH Tryz.prog 238 ⟨[.pointer (some ⟨b,0,none⟩),By c]⟩ h fun u h'=>u=.nilIface∧∃ v',Bl h' b v' (bs++[c])∧Ext (fun k=>k=b∨v.ownBlock=some k) h h'∧∀ k,v'.ownBlock=some k→v.ownBlock=some k∨h.size≤k:=by
  have r0:=r
  obtain ⟨⟨p,hb,_⟩,ho,_⟩:=r
  obtain ⟨A,c0,rfl,_⟩:=ho.slice
  have hne:(Value.slice A bs.length c0).ownBlock ≠ some b:=own_ne ho hb (by decide)
  refine calls [(0,_),(1,_)] Tryz.func238 rfl Tryz.ntmps238 rfl ⟨rfl,rfl,trivial⟩ ?_
  all_goals (refine WC.sr ?_)
  all_goals (refine Go ?_)
  all_goals (refine WC.sr ?_)
  all_goals (refine Go ?_)
  all_goals (refine WL.call (vs := [_]) rfl (fun a w => Tryz.call271 a w) rfl (copyCheck r0) rfl rfl rfl ?_
             rintro _ h1 ⟨rfl,hb1,hx1⟩)
  all_goals (have ho1:=ho.ext hx1 (fun k hk e=>hne (by rw [hk,e])))
  all_goals (refine Gn ?_)
  all_goals (refine WC.sr ?_)
  all_goals (refine Go ?_)
  all_goals (refine WL.step (ok_nilCheck rfl) rfl rfl rfl ?_)
  all_goals (refine Go ?_)
  all_goals (refine Ld ?_)
  all_goals (refine Go ?_)
  all_goals (refine WL.stepR (okE_buildSlice (vs := [_]) (cs := [_]) (fun | [a0] => [a0] | _ => []) Tryz.underlying28 rfl rfl (by kernel_rfl)) rfl rfl rfl ?_
             rintro _ h3 ⟨b3,rfl,hg3,hb3,hx3⟩)
  all_goals (have ho3 := ho1.ext hx3 (fun _ _ => nos)
             have hb3':=hx3.obj hb1 nos)
  all_goals (refine WL.stepR (ok_append (sz := 1) (bytes := 1) rfl Tryz.underlying28 (show Tryz.prog.info? 5 = some Tryz.t5 by kernel_rfl) rfl rfl rfl rfl (by decide) rfl rfl ho3 (rd_blk hb3 rfl) (by simp [Value.oneCell']) (by simp only [maxLen]; omega) (by omega)) rfl rfl rfl ?_
             rintro v4 h4 ⟨ho4,hx4,hl4⟩)
  all_goals (obtain ⟨A4, c4, rfl, _⟩ := ho4.slice
             have hb4:=hx4.obj hb3' (fun e=>hne e))
  all_goals (refine WL.step (ok_nilCheck rfl) rfl rfl rfl ?_)
  all_goals (refine Go ?_)
  all_goals (refine WL.stepR0 (okE_store (fun w => Tryz.sizeOf28 w) rfl rfl hb4 (Nat.le_of_ble_eq_true rfl) rfl rfl) rfl rfl ?_
             rintro _ h5 ⟨hb5,hx5⟩)
  all_goals (refine Gn ?_)
  all_goals (refine Gs [] ?_)
  all_goals (refine WC.sr ?_)
  all_goals (refine Go ?_)
  all_goals (refine Gt ?_)
  all_goals (exact ⟨rfl,_,⟨⟨_,hb5,.inr rfl⟩,by simpa using ho4.ext hx5 (fun k hk e=>own_ne ho4 hb4 (by decide) (by rw [hk,e])),by simp⟩,(((hx1.mono (fun k _ e=>.inl e)).trans (hx3.mono (fun k _ e=>e.elim))).trans' hx4 (fun k _ e=>.inr e)).trans' hx5 (fun k _ e=>.inl e),kin_of hl4 (Nat.le_trans hx1.size hx3.size)⟩)
set_option maxHeartbeats 2000000 in
set_option maxRecDepth 100000 in
theorem builderString {h : Heap} {b : Nat} {v : Value} {bs : List UInt8} (r : Bl h b v bs) (hm : bs.length ≤ 1000000) :
    CallsH Tryz.prog 239 ⟨[.pointer (some ⟨b,0,none⟩)]⟩ h fun u h'=>u=St bs∧Ext (fun k=>v.ownBlock=some k) h h':=by
  obtain ⟨⟨p,hb,_⟩,ho,hnn⟩:=r
  rcases ho with ⟨_,⟨rfl,h0⟩ | ⟨g,cap,cur,rfl,hg,hn,hcm,hcs,hct⟩⟩
  · obtain rfl:=List.eq_nil_of_length_eq_zero h0
    refine calls [(0,_)] Tryz.func239 rfl Tryz.ntmps239 rfl ⟨rfl,trivial⟩ ?_
    all_goals (refine WC.sr ?_)
    all_goals (refine Go ?_)
    all_goals (refine WC.seq ?_)
    all_goals (refine WC.drawT 10 fol (by kernel_rfl) ?_)
    all_goals (show WS _ _ _ [_,_,_,_,_,_,_,_,_,_] _ _ _)
    all_goals (refine WS.step (ok_move rfl) rfl rfl rfl ?_)
    all_goals (refine WS.step (ok_nilCheck rfl) rfl rfl rfl ?_)
    all_goals (refine WS.step (ok_fieldAddr rfl Tryz.underlying318 rfl (fun w=>Tryz.sizeOf28 w)) rfl rfl rfl ?_)
    all_goals (refine WS.step (ok_load (fun w=>Tryz.isAgg28 w) rfl (by first | assumption | exact cell_blk (by assumption) rfl)) rfl rfl rfl ?_)
    all_goals (first | (refine WS.step (ok_sliceData rfl (by omega)) rfl rfl rfl ?_) | (refine WS.step (ok_sliceData0 rfl) rfl rfl rfl ?_))
    all_goals (refine WS.step (ok_move rfl) rfl rfl rfl ?_)
    all_goals (refine WS.step (ok_nilCheck rfl) rfl rfl rfl ?_)
    all_goals (refine WS.step (ok_fieldAddr rfl Tryz.underlying318 rfl (fun w=>Tryz.sizeOf28 w)) rfl rfl rfl ?_)
    all_goals (refine WS.step (ok_load (fun w=>Tryz.isAgg28 w) rfl (by first | assumption | exact cell_blk (by assumption) rfl)) rfl rfl rfl ?_)
    all_goals (refine WS.step (ok_lenL rfl Tryz.underlying28 rfl) rfl rfl rfl ?_)
    all_goals (refine WS.nil ?_)
    all_goals (show WL _ _ _ [_,_] _ _ _)
    all_goals (refine WL.stepR (okE_unsafeString0 rfl rfl rfl) rfl rfl rfl ?_
               rintro _ hz ⟨rfl,_⟩
               subst hz)
    all_goals (refine WL.step (ok_assign rfl) rfl rfl rfl ?_)
    all_goals (refine WL.nil ?_)
    all_goals (refine Gn ?_)
    all_goals (refine Gs [(2,_)] ?_)
    all_goals (refine Gt ?_)
    all_goals (exact ⟨rfl,.refl _ _⟩)
  · have hg':h[g]?=some (.cells ⟨cur.toList⟩ 5 (0,0)):=hg
    by_cases hc0:cap=0
    · have h0:bs=[]:=List.eq_nil_of_length_eq_zero (by omega)
      cases hnn h0
    ·
      refine calls [(0,_)] Tryz.func239 rfl Tryz.ntmps239 rfl ⟨rfl,trivial⟩ ?_
      all_goals (refine WC.sr ?_)
      all_goals (refine Go ?_)
      all_goals (refine WC.seq ?_)
      all_goals (refine WC.drawT 10 fol (by kernel_rfl) ?_)
      all_goals (show WS _ _ _ [_,_,_,_,_,_,_,_,_,_] _ _ _)
      all_goals (refine WS.step (ok_move rfl) rfl rfl rfl ?_)
      all_goals (refine WS.step (ok_nilCheck rfl) rfl rfl rfl ?_)
      all_goals (refine WS.step (ok_fieldAddr rfl Tryz.underlying318 rfl (fun w=>Tryz.sizeOf28 w)) rfl rfl rfl ?_)
      all_goals (refine WS.step (ok_load (fun w=>Tryz.isAgg28 w) rfl (by first | assumption | exact cell_blk (by assumption) rfl)) rfl rfl rfl ?_)
      all_goals (first | (refine WS.step (ok_sliceData rfl (by omega)) rfl rfl rfl ?_) | (refine WS.step (ok_sliceData0 rfl) rfl rfl rfl ?_))
      all_goals (refine WS.step (ok_move rfl) rfl rfl rfl ?_)
      all_goals (refine WS.step (ok_nilCheck rfl) rfl rfl rfl ?_)
      all_goals (refine WS.step (ok_fieldAddr rfl Tryz.underlying318 rfl (fun w=>Tryz.sizeOf28 w)) rfl rfl rfl ?_)
      all_goals (refine WS.step (ok_load (fun w=>Tryz.isAgg28 w) rfl (by first | assumption | exact cell_blk (by assumption) rfl)) rfl rfl rfl ?_)
      all_goals (refine WS.step (ok_lenL rfl Tryz.underlying28 rfl) rfl rfl rfl ?_)
      all_goals (refine WS.nil ?_)
      all_goals (show WL _ _ _ [_,_] _ _ _)
      all_goals (refine WL.stepR (okE_unsafeString rfl Tryz.underlying341 (by kernel_rfl) rfl rfl rfl hg' (by simpa using hct) (by unfold maxLen; omega)) rfl rfl rfl ?_
                 rintro _ h1 ⟨rfl,hx1⟩)
      all_goals (refine WL.step (ok_assign rfl) rfl rfl rfl ?_)
      all_goals (refine WL.nil ?_)
      all_goals (refine Gn ?_)
      all_goals (refine Gs [(2,_)] ?_)
      all_goals (refine Gt ?_)
      all_goals (exact ⟨rfl,hx1.mono (fun k _ e=>by rw [e];rfl)⟩)
set_option maxHeartbeats 2000000 in
set_option maxRecDepth 100000 in
theorem least_any {h : Heap} (m : Nat) (hm : m ≤ 9223372036854775808) :
    CallsH Tryz.prog 237 ⟨[In (-(m:Int))]⟩ h fun u h'=>Own h' u 5 1 (rdig m).length (bys (rdig m))∧Ext No h h'∧∀ k,u.ownBlock=some k→h.size≤k:=by
  have hlm:=rdig_len20 m hm
  refine calls [(0,_)] Tryz.func237 rfl Tryz.ntmps237 rfl ⟨rfl,trivial⟩ ?_
  all_goals (refine WC.sr ?_)
  all_goals (refine Go ?_)
  all_goals (refine WC.sr ?_)
  all_goals (refine Go ?_)
  all_goals (refine WC.block ?_)
  -- loop 0: slots that turn [0,3],that stay []
  all_goals (refine WC.loopG (X:=List UInt8 × Value × Nat) (fun x=>([(3,x.2.1),(0,In (-(x.2.2:Int)))]:Fr)) [] (fun x h'=>x.2.2≤m∧x.1++rdig x.2.2=rdig m∧Own h' x.2.1 5 1 x.1.length (bys x.1)∧Ext No h h'∧∀ k,x.2.1.ownBlock=some k→h.size≤k) (fun x=>x.2.2) (([],.slice none 0 0,m)) ⟨rfl,rfl,trivial⟩ (by exact ⟨Nat.le_refl _,rfl,Own.nil _ _ _,.refl _ _,by simp [Value.ownBlock]⟩) ?_)
  all_goals (rintro ⟨out, v1, q⟩ h1 ⟨hq, hout, ho1, hx1, hf1⟩
             simp only at hq hout ho1 hf1
             obtain ⟨A1,c1,rfl,_⟩:=ho1.slice
             have hlo:=congrArg List.length hout
             rw [List.length_append] at hlo
             have hpos:=rdig_pos q
             have e1:=tdiv_neg10 q
             have e2:=tmod_neg10 q)
  all_goals (refine WC.sub [(0,_),(3,_)] ⟨rfl,rfl,trivial⟩ ?_)
  all_goals (dsimp only)
  all_goals (refine WC.block ?_)
  all_goals (refine WC.sr ?_)
  all_goals (refine Go ?_)
  all_goals (refine WL.step (ok_rem rfl rfl (by decide)) rfl rfl rfl ?_)
  all_goals (rw [e2])
  all_goals (first | (refine WL.step (ok_subI rfl rfl (by omega)) rfl rfl rfl ?_) | (refine WL.step (ok_sub rfl rfl) rfl rfl rfl ?_))
  all_goals (first | (refine WL.step (ok_convU8 Tryz.underlying3 Tryz.underlying5 rfl (by omega)) rfl rfl rfl ?_) | (refine WL.step (ok_conv Tryz.underlying3 Tryz.underlying5 rfl) rfl rfl rfl ?_))
  all_goals (rw [show (48 - -((q % 10:Nat):Int))=48+(q % 10:Nat) by omega,← by_dig])
  all_goals (refine WL.stepR (okE_buildSlice (vs := [_]) (cs := [_]) (fun | [a0] => [a0] | _ => []) Tryz.underlying28 rfl rfl (by kernel_rfl)) rfl rfl rfl ?_
             rintro _ h3 ⟨b3,rfl,hg3,hb3,hx3⟩)
  all_goals (refine WL.stepR (ok_append (sz := 1) (bytes := 1) rfl Tryz.underlying28 (show Tryz.prog.info? 5 = some Tryz.t5 by kernel_rfl) rfl rfl rfl rfl (by decide) rfl rfl (ho1.ext hx3 (fun _ _ => nos)) (rd_blk hb3 rfl) (by simp [Value.oneCell']) (by simp only [maxLen]; omega) (by omega)) rfl rfl rfl ?_
             rintro v4 h4 ⟨ho4,hx4,hl4⟩)
  all_goals (have hf4 := fresh_of hl4 hf1 (by have := hx1.size; have := hx3.size; omega)
             have hE4:=(hx1.trans hx3).trans' hx4 (fun q hq e=>by have:=hf1 q e;omega))
  all_goals (refine Go ?_)
  all_goals (refine Gs [(0,_),(3,_)] ?_)
  all_goals (refine WC.sr ?_)
  all_goals (refine Go ?_)
  all_goals (first | (refine WL.step (ok_quoI rfl rfl (by decide) (tdiv_in (by omega) (by decide))) rfl rfl rfl ?_) | (refine WL.step (ok_quo rfl rfl (by decide)) rfl rfl rfl ?_))
  all_goals (rw [e1])
  all_goals (refine WL.step (ok_assign rfl) rfl rfl rfl ?_)
  all_goals (refine Gn ?_)
  all_goals (refine WC.sr ?_)
  all_goals (refine Go ?_)
  all_goals (refine goC 1 2 ?_ ?_ <;> first | exact ⟨⟩ | refine Hb.mk fun hb=>?_ | skip)
  all_goals (first | (fail_if_success refine goB 1 ?_) | (
  refine goB 1 ?_
  all_goals (refine WC.sr ?_)
  all_goals (refine Go ?_)
  all_goals (refine Gs [(2,_)] ?_)
  all_goals (refine Gt ?_)
  all_goals (exact ⟨by rw [← hout,rdig_lt (m:=q) (by omega)];have e9:q % 10=q:=Nat.mod_eq_of_lt (by omega);rw [e9] at ho4;simpa using ho4,hE4,hf4⟩)
  skip))
  all_goals (first | (fail_if_success refine goB 2 ?_) | (
  refine goB 2 ?_
  all_goals (refine WC.skip ?_)
  skip))
  all_goals (refine Gn ?_)
  all_goals (exact ⟨(out++[UInt8.ofNat (48+q % 10)],_,q / 10),⟨rfl,rfl,trivial⟩,(by exact ⟨by simp;omega,by rw [← hout,rdig_ge (m:=q) (by omega)];simp,by simpa using ho4,hE4,hf4⟩),(by simp;omega)⟩)
  all_goals (refine Gn ?_)
  all_goals (refine retP_n [] trivial ?_)
  all_goals (exact ⟨by rw [← hout,rdig_lt (m:=q) (by omega)];have e9:q % 10=q:=Nat.mod_eq_of_lt (by omega);rw [e9] at ho4;simpa using ho4,hE4,hf4⟩)
theorem get_by {l:List UInt8} {j:Nat} {y:UInt8} (hy:l[j]?=some y):(bys l)[j]?=some (By y):=by simp [hy]
theorem drop_snoc {l:List UInt8} {j:Nat} {y:UInt8} (hy:l[j]?=some y):(l.drop j).reverse=(l.drop (j+1)).reverse++[y]:=by
  rw [List.drop_eq_getElem?_toList_append,hy]
  simp
theorem own_blt {h:Heap} {b:Nat} {v:Value} {bs:List UInt8} (r:Bl h b v bs):b < h.size:=by
  obtain ⟨⟨p,hb,_⟩,_⟩:=r
  exact lt_of_some hb
set_option maxHeartbeats 2000000 in
set_option maxRecDepth 100000 in
theorem text_pos {h : Heap} (m : Nat) (hm : m ≤ 9223372036854775807) :
    CallsH Tryz.prog 189 ⟨[In m]⟩ h fun u h'=>u=St (deci m)∧Ext No h h':=by
  have ed:deci (m:Int)=dig m:=by unfold deci;rw [if_neg (by omega)];rfl
  have hlm:=rdig_len20 m (by omega)
  refine calls [(0,_)] Tryz.func189 rfl Tryz.ntmps189 rfl ⟨rfl,trivial⟩ ?_
  all_goals (refine WC.sr ?_)
  all_goals (refine Go ?_)
  all_goals (refine WC.sr ?_)
  all_goals (refine Go ?_)
  all_goals (refine WC.seq ?_)
  all_goals (refine WC.sr ?_)
  all_goals (refine Go ?_)
  all_goals (refine Gs [(0,_),(3,_),(10,_)] ?_)
  all_goals (refine goC 1 2 ?_ ?_ <;> first | exact ⟨⟩ | refine Hb.mk fun hb=>?_ | skip)
  all_goals (first | (fail_if_success refine goB 1 ?_) | (
  refine goB 1 ?_
  all_goals (refine WC.region ?_)
  all_goals (refine Go ?_)
  all_goals (first | (refine WL.step (ok_negI rfl (by omega)) rfl rfl rfl ?_) | (refine WL.step (ok_neg rfl) rfl rfl rfl ?_))
  all_goals (refine Go ?_)
  skip))
  all_goals (first | (fail_if_success refine goB 2 ?_) | (
  refine goB 2 ?_
  all_goals (refine WC.skip ?_)
  skip))
  all_goals (refine Gn ?_)
  all_goals (refine WC.sr ?_)
  all_goals (refine Go ?_)
  all_goals (refine WL.call (vs := [_]) rfl (fun a w => Tryz.call237 a w) rfl (least_any m (by omega)) rfl rfl rfl ?_
             rintro v4 h4 ⟨ho4,hx4,hf4⟩)
  all_goals (obtain ⟨A4,c4,rfl,_⟩:=ho4.slice)
  all_goals (refine Go ?_)
  all_goals (refine Gs [(3,_),(4,_)] ?_)
  all_goals (refine WC.seq ?_)
  all_goals (refine WC.sr ?_)
  all_goals (refine Go ?_)
  all_goals (refine goC 3 4 ?_ ?_ <;> first | exact ⟨⟩ | refine Hb.mk fun hb=>?_ | skip)
  all_goals (first | (fail_if_success refine goB 3 ?_) | (
  refine goB 3 ?_
  all_goals (refine WC.region ?_)
  all_goals (refine Go ?_)
  all_goals (refine WL.stepR (okE_buildSlice (vs := [_]) (cs := [_]) (fun | [a0] => [a0] | _ => []) Tryz.underlying28 rfl rfl (by kernel_rfl)) rfl rfl rfl ?_
             rintro _ h1 ⟨b1,rfl,hg1,hb1,hx1⟩)
  all_goals (refine WL.stepR (ok_append (sz := 1) (bytes := 1) rfl Tryz.underlying28 (show Tryz.prog.info? 5 = some Tryz.t5 by kernel_rfl) rfl rfl rfl rfl (by decide) rfl rfl (by assumption) (by first | assumption | exact rd_blk (by assumption) rfl) (by simp [Value.oneCell']) (by simp only [maxLen]; omega) (by omega)) rfl rfl rfl ?_
             rintro v1 h1 ⟨ho1,hx1,hl1⟩)
  all_goals (refine Go ?_)
  skip))
  all_goals (first | (fail_if_success refine goB 4 ?_) | (
  refine goB 4 ?_
  all_goals (refine WC.skip ?_)
  skip))
  all_goals (refine Gn ?_)
  all_goals (refine WC.sr ?_)
  all_goals (refine WL.stepR (okE_alloc (fun w => Tryz.zeroValue318 w)) rfl rfl rfl ?_
             rintro _ h5 ⟨b5,rfl,hg5,hb5,hx5⟩)
  all_goals (have hob := ho4.ext hx5 (fun _ _ => nos)
             have hfb:∀ k,(Value.slice A4 (rdig m).length c4).ownBlock=some k→k < b5:=fun k e=>by have:=ho4.lt e;omega)
  all_goals (refine Gn ?_)
  all_goals (refine WC.seq ?_)
  all_goals (refine WC.sr ?_)
  all_goals (refine Go ?_)
  all_goals (refine Gs [(4,_),(5,_),(6,_)] ?_)
  all_goals (refine WC.block ?_)
  -- loop 0: slots that turn [6],that stay [4,5]
  all_goals (refine WC.loopG (X:=Nat × Value) (fun x=>([(6,In ((x.1:Int) - 1))]:Fr)) [(4,_),(5,_)] (fun x h'=>x.1≤(rdig m).length∧Bl h' b5 x.2 ((rdig m).drop x.1).reverse∧Own h' (Value.slice A4 (rdig m).length c4) 5 1 (rdig m).length (bys (rdig m))∧Ext No h h'∧h.size≤b5∧∀ k,x.2.ownBlock=some k→b5 < k) (fun x=>x.1) (((rdig m).length,.slice none 0 0)) ⟨rfl,rfl,rfl,trivial⟩ (by exact ⟨Nat.le_refl _,by simpa [Bl] using (⟨⟨_,hb5,.inl rfl⟩,Own.nil _ _ _⟩:_∧_),hob,hx4.trans hx5,Nat.le_trans hx4.size hg5,by simp [Value.ownBlock]⟩) ?_)
  all_goals (rintro ⟨k, v6⟩ h6 ⟨hk, hbl, ho6, hx6, hg6, hf6⟩
             simp only at hk hbl hf6)
  all_goals (refine WC.sub [(6,_),(4,_),(5,_)] ⟨rfl,rfl,rfl,trivial⟩ ?_)
  all_goals (dsimp only)
  all_goals (refine WC.seq ?_)
  all_goals (refine WC.sr ?_)
  all_goals (refine Go ?_)
  all_goals (refine goC 5 6 ?_ ?_ <;> first | exact ⟨⟩ | refine Hb.mk fun hb=>?_ | skip)
  all_goals (first | (fail_if_success refine goB 5 ?_) | (
  refine goB 5 ?_
  all_goals (refine WC.skip ?_)
  skip))
  all_goals (first | (fail_if_success refine goB 6 ?_) | (
  refine goB 6 ?_
  all_goals (refine WC.exit ?_)
  all_goals (repeat' (with_reducible first | refine thenP_x ?_ | refine blockP_miss rfl ?_ | refine blockP_hit ?_ | refine blockP_n ?_ | refine thenP_n ?_))
  all_goals (refine Br.out (i:=1000) ?_)
  skip))
  all_goals (refine Gn ?_)
  all_goals (first | (refine Br.keep ?_) | (refine WC.seq ?_))
  all_goals (first | (refine Br.keep ?_) | (refine WC.block ?_))
  all_goals (first
               | (refine Br.keep ?_)
               | (obtain ⟨bL,oL,hA,hbL,hat⟩:=Rd.at_ ho6.rd (by omega)
                  obtain ⟨j,rfl⟩:∃ j,k=j+1:=⟨k - 1,by omega⟩
                  obtain ⟨y,hy⟩:∃ y,(rdig m)[j]?=some y:=⟨_,List.getElem?_eq_getElem (by omega)⟩
                  have hc:=hat.get (p:=oL+j * 1) (v:=By y) j (get_by hy) (by omega)
                  have e8:(((j+1:Nat):Int) - 1)=(j:Nat):=by omega
                  rw [e8]))
  all_goals (first | (refine Br.keep ?_) | (refine WC.region ?_))
  all_goals (refine Go ?_)
  all_goals (first | (refine Br.keep ?_) | (refine WL.step (ok_idxAddrA Tryz.underlying28 (fun w=>Tryz.sizeOf5 w) rfl rfl rfl (by omega) (by first | rfl | assumption)) rfl rfl rfl ?_))
  all_goals (first | (refine Br.keep ?_) | (refine Ld ?_))
  all_goals (first
               | (refine Br.keep ?_)
               | (refine WL.call (vs:=[_,_]) rfl (fun a w=>Tryz.call238 a w) rfl (writeByte hbl y (by simp;omega)) rfl rfl rfl ?_
                  rintro _ h7 ⟨rfl,v7,hbl7,hx7,hk7⟩))
  all_goals (refine Gn ?_)
  all_goals (first | (refine Br.keep ?_) | (refine Gs [(4,_),(5,_),(6,_)] ?_))
  all_goals (first | (refine Br.keep ?_) | (refine WC.region ?_))
  all_goals (refine Go ?_)
  all_goals (first | (refine Br.keep ?_) | (exact ⟨(j,_),⟨rfl,rfl,rfl,trivial⟩,(by exact ⟨by simp;omega,by rw [drop_snoc hy];exact hbl7,ho6.ext hx7 (fun q hq e=>e.elim (fun e=>by have:=hfb q hq;omega) (fun e=>by have:=hfb q hq;have:=hf6 q e;omega)),hx6.trans' hx7 (fun q hq e=>e.elim (fun e=>by omega) (fun e=>by have:=hf6 q e;omega)),hg6,fun q hq=>(hk7 q hq).elim (hf6 q) (fun e=>Nat.lt_of_lt_of_le (own_blt hbl) e)⟩),(by simp)⟩))
  all_goals (try (refine Br.mk (i:=1000) ?_))
  all_goals (refine Gn ?_)
  all_goals (refine Gs [(5,_)] ?_)
  all_goals (refine WC.sr ?_)
  all_goals (refine WL.call (vs := [_]) rfl (fun a w => Tryz.call239 a w) rfl (builderString hbl (by simp; omega)) rfl rfl rfl ?_
             rintro _ h8 ⟨rfl,hx8⟩)
  all_goals (refine Go ?_)
  all_goals (refine Gt ?_)
  all_goals (exact ⟨by rw [show k=0 by omega,ed];simp [dig],hx6.trans' hx8 (fun q hq e=>by have:=hf6 q e;omega)⟩)
set_option maxHeartbeats 2000000 in
set_option maxRecDepth 100000 in
theorem text_neg {h : Heap} (m : Nat) (h0 : 0 < m) (hm : m ≤ 9223372036854775808) :
    CallsH Tryz.prog 189 ⟨[In (-(m:Int))]⟩ h fun u h'=>u=St (deci (-(m:Int)))∧Ext No h h':=by
  have ed:deci (-(m:Int))=45 :: dig m:=by unfold deci;rw [if_pos (by omega)];simp
  have hlm:=rdig_len20 m (by omega)
  refine calls [(0,_)] Tryz.func189 rfl Tryz.ntmps189 rfl ⟨rfl,trivial⟩ ?_
  all_goals (refine WC.sr ?_)
  all_goals (refine Go ?_)
  all_goals (refine WC.sr ?_)
  all_goals (refine Go ?_)
  all_goals (refine WC.seq ?_)
  all_goals (refine WC.sr ?_)
  all_goals (refine Go ?_)
  all_goals (refine Gs [(0,_),(3,_),(10,_)] ?_)
  all_goals (refine goC 1 2 ?_ ?_ <;> first | exact ⟨⟩ | refine Hb.mk fun hb=>?_ | skip)
  all_goals (first | (fail_if_success refine goB 1 ?_) | (
  refine goB 1 ?_
  all_goals (refine WC.region ?_)
  all_goals (refine Go ?_)
  all_goals (first | (refine WL.step (ok_negI rfl (by omega)) rfl rfl rfl ?_) | (refine WL.step (ok_neg rfl) rfl rfl rfl ?_))
  all_goals (refine Go ?_)
  skip))
  all_goals (first | (fail_if_success refine goB 2 ?_) | (
  refine goB 2 ?_
  all_goals (refine WC.skip ?_)
  skip))
  all_goals (refine Gn ?_)
  all_goals (refine WC.sr ?_)
  all_goals (refine Go ?_)
  all_goals (refine WL.call (vs := [_]) rfl (fun a w => Tryz.call237 a w) rfl (least_any m (by omega)) rfl rfl rfl ?_
             rintro v4 h4 ⟨ho4,hx4,hf4⟩)
  all_goals (refine Go ?_)
  all_goals (refine Gs [(3,_),(4,_)] ?_)
  all_goals (refine WC.seq ?_)
  all_goals (refine WC.sr ?_)
  all_goals (refine Go ?_)
  all_goals (refine goC 3 4 ?_ ?_ <;> first | exact ⟨⟩ | refine Hb.mk fun hb=>?_ | skip)
  all_goals (first | (fail_if_success refine goB 3 ?_) | (
  refine goB 3 ?_
  all_goals (refine WC.region ?_)
  all_goals (refine Go ?_)
  all_goals (refine WL.stepR (okE_buildSlice (vs := [_]) (cs := [_]) (fun | [a0] => [a0] | _ => []) Tryz.underlying28 rfl rfl (by kernel_rfl)) rfl rfl rfl ?_
             rintro _ h3 ⟨b3,rfl,hg3,hb3,hx3⟩)
  all_goals (refine WL.stepR (ok_append (sz := 1) (bytes := 1) rfl Tryz.underlying28 (show Tryz.prog.info? 5 = some Tryz.t5 by kernel_rfl) rfl rfl rfl rfl (by decide) rfl rfl (ho4.ext hx3 (fun _ _ => nos)) (rd_blk hb3 rfl) (by simp [Value.oneCell']) (by simp only [maxLen]; omega) (by omega)) rfl rfl rfl ?_
             rintro v7 h7 ⟨ho7,hx7,hl7⟩)
  all_goals (have hf7 := fresh_of hl7 hf4 (by have := hx4.size; have := hx3.size; omega)
             have hX7:=(hx4.trans hx3).trans' hx7 (fun q hq e=>by have:=hf4 q e;omega)
             have e45:bys (rdig m)++[.int .u8 45]=bys (rdig m++[45]):=by simp
             have l45:(rdig m).length+1=(rdig m++[45]).length:=by simp
             rw [e45,l45] at ho7
             have hlf:(rdig m++[45]).length≤21:=by omega
             obtain ⟨A7,c7,rfl,_⟩:=ho7.slice)
  all_goals (refine Go ?_)
  skip))
  all_goals (first | (fail_if_success refine goB 4 ?_) | (
  refine goB 4 ?_
  all_goals (refine WC.skip ?_)
  skip))
  all_goals (refine Gn ?_)
  all_goals (refine WC.sr ?_)
  all_goals (refine WL.stepR (okE_alloc (fun w => Tryz.zeroValue318 w)) rfl rfl rfl ?_
             rintro _ h5 ⟨b5,rfl,hg5,hb5,hx5⟩)
  all_goals (have hob := ho7.ext hx5 (fun _ _ => nos)
             have hfb:∀ k,(Value.slice A7 (rdig m++[45]).length c7).ownBlock=some k→k < b5:=fun k e=>by have:=ho7.lt e;omega)
  all_goals (refine Gn ?_)
  all_goals (refine WC.seq ?_)
  all_goals (refine WC.sr ?_)
  all_goals (refine Go ?_)
  all_goals (refine Gs [(4,_),(5,_),(6,_)] ?_)
  all_goals (refine WC.block ?_)
  -- loop 0: slots that turn [6],that stay [4,5]
  all_goals (refine WC.loopG (X:=Nat × Value) (fun x=>([(6,In ((x.1:Int) - 1))]:Fr)) [(4,_),(5,_)] (fun x h'=>x.1≤(rdig m++[45]).length∧Bl h' b5 x.2 ((rdig m++[45]).drop x.1).reverse∧Own h' (Value.slice A7 (rdig m++[45]).length c7) 5 1 (rdig m++[45]).length (bys (rdig m++[45]))∧Ext No h h'∧h.size≤b5∧∀ k,x.2.ownBlock=some k→b5 < k) (fun x=>x.1) (((rdig m++[45]).length,.slice none 0 0)) ⟨rfl,rfl,rfl,trivial⟩ (by exact ⟨Nat.le_refl _,by simpa [Bl] using (⟨⟨_,hb5,.inl rfl⟩,Own.nil _ _ _⟩:_∧_),hob,hX7.trans hx5,Nat.le_trans hX7.size hg5,by simp [Value.ownBlock]⟩) ?_)
  all_goals (rintro ⟨k, v6⟩ h6 ⟨hk, hbl, ho6, hx6, hg6, hf6⟩
             simp only at hk hbl hf6)
  all_goals (refine WC.sub [(6,_),(4,_),(5,_)] ⟨rfl,rfl,rfl,trivial⟩ ?_)
  all_goals (dsimp only)
  all_goals (refine WC.seq ?_)
  all_goals (refine WC.sr ?_)
  all_goals (refine Go ?_)
  all_goals (refine goC 5 6 ?_ ?_ <;> first | exact ⟨⟩ | refine Hb.mk fun hb=>?_ | skip)
  all_goals (first | (fail_if_success refine goB 5 ?_) | (
  refine goB 5 ?_
  all_goals (refine WC.skip ?_)
  skip))
  all_goals (first | (fail_if_success refine goB 6 ?_) | (
  refine goB 6 ?_
  all_goals (refine WC.exit ?_)
  all_goals (repeat' (with_reducible first | refine thenP_x ?_ | refine blockP_miss rfl ?_ | refine blockP_hit ?_ | refine blockP_n ?_ | refine thenP_n ?_))
  all_goals (refine Br.out (i:=1000) ?_)
  skip))
  all_goals (refine Gn ?_)
  all_goals (first | (refine Br.keep ?_) | (refine WC.seq ?_))
  all_goals (first | (refine Br.keep ?_) | (refine WC.block ?_))
  all_goals (first
               | (refine Br.keep ?_)
               | (obtain ⟨bL,oL,hA,hbL,hat⟩:=Rd.at_ ho6.rd (by omega)
                  obtain ⟨j,rfl⟩:∃ j,k=j+1:=⟨k - 1,by omega⟩
                  obtain ⟨y,hy⟩:∃ y,(rdig m++[45])[j]?=some y:=⟨_,List.getElem?_eq_getElem (by omega)⟩
                  have hc:=hat.get (p:=oL+j * 1) (v:=By y) j (get_by hy) (by omega)
                  have e8:(((j+1:Nat):Int) - 1)=(j:Nat):=by omega
                  rw [e8]))
  all_goals (first | (refine Br.keep ?_) | (refine WC.region ?_))
  all_goals (refine Go ?_)
  all_goals (first | (refine Br.keep ?_) | (refine WL.step (ok_idxAddrA Tryz.underlying28 (fun w=>Tryz.sizeOf5 w) rfl rfl rfl (by omega) (by first | rfl | assumption)) rfl rfl rfl ?_))
  all_goals (first | (refine Br.keep ?_) | (refine Ld ?_))
  all_goals (first
               | (refine Br.keep ?_)
               | (refine WL.call (vs:=[_,_]) rfl (fun a w=>Tryz.call238 a w) rfl (writeByte hbl y (by simp;omega)) rfl rfl rfl ?_
                  rintro _ h7 ⟨rfl,v7,hbl7,hx7,hk7⟩))
  all_goals (refine Gn ?_)
  all_goals (first | (refine Br.keep ?_) | (refine Gs [(4,_),(5,_),(6,_)] ?_))
  all_goals (first | (refine Br.keep ?_) | (refine WC.region ?_))
  all_goals (refine Go ?_)
  all_goals (first | (refine Br.keep ?_) | (exact ⟨(j,_),⟨rfl,rfl,rfl,trivial⟩,(by exact ⟨by simp;omega,by rw [drop_snoc hy];exact hbl7,ho6.ext hx7 (fun q hq e=>e.elim (fun e=>by have:=hfb q hq;omega) (fun e=>by have:=hfb q hq;have:=hf6 q e;omega)),hx6.trans' hx7 (fun q hq e=>e.elim (fun e=>by omega) (fun e=>by have:=hf6 q e;omega)),hg6,fun q hq=>(hk7 q hq).elim (hf6 q) (fun e=>Nat.lt_of_lt_of_le (own_blt hbl) e)⟩),(by simp)⟩))
  all_goals (try (refine Br.mk (i:=1000) ?_))
  all_goals (refine Gn ?_)
  all_goals (refine Gs [(5,_)] ?_)
  all_goals (refine WC.sr ?_)
  all_goals (refine WL.call (vs := [_]) rfl (fun a w => Tryz.call239 a w) rfl (builderString hbl (by simp; omega)) rfl rfl rfl ?_
             rintro _ h8 ⟨rfl,hx8⟩)
  all_goals (refine Go ?_)
  all_goals (refine Gt ?_)
  all_goals (exact ⟨by rw [show k=0 by omega,ed];simp [dig],hx6.trans' hx8 (fun q hq e=>by have:=hf6 q e;omega)⟩)
theorem text_any {h : Heap} (n : Int) (h0 : -9223372036854775808 ≤ n) (h1 : n ≤ 9223372036854775807) :
    CallsH Tryz.prog 189 ⟨[In n]⟩ h fun u h'=>u=St (deci n)∧Ext No h h':=by
  by_cases hp:0≤n
  · obtain ⟨m,rfl⟩:=Int.eq_ofNat_of_zero_le hp
    exact text_pos m (by omega)
  · obtain ⟨m,rfl⟩:∃ m:Nat,n = -(m:Int):=⟨n.natAbs,by omega⟩
    exact text_neg m (by omega) (by omega)
end Go.Proofs.YtjgeofdgdlmcoaaGreatDoor
namespace Go.Proofs.YtjgeofdgdlmcoaaGreatDoor
open Go Go.RK
open Go.RK.Uni (Ty El)
open Go.RK.Byt (bT)
theorem ix_some {l:List UInt8} {c:UInt8} {y:Int} (e:(bif leI (-1) (Go.Lib.indexByte l c) then some (Go.Lib.indexByte l c) else none)=some y):some (Go.Lib.indexByte l c)=some y:=(bif_some e).2
noncomputable def f_text (n:Int):Option (List UInt8):=bif inR n then some (deci n) else none
theorem inR_le {n:Int} (h:inR n=true) : -9223372036854775808≤n∧n≤9223372036854775807:=by
  unfold inR at h
  rw [leI_eq,leI_eq] at h
  simpa using h
noncomputable def c_text:Go.RK.Fn Tryz.prog 189:=mkIS en0 (by kernel_rfl) [3] f_text fun n s e h=>by
  unfold f_text at e
  obtain ⟨h1,e⟩:=bif_some e
  injection e with e
  subst e
  exact text_any n (inR_le h1).1 (inR_le h1).2
noncomputable def f_ixS (l:List UInt8) (c:UInt8):Option Int:=bif leI (-1) (Go.Lib.indexByte l c) then some (Go.Lib.indexByte l c) else none
noncomputable def c_ixS:Go.RK.Fn Tryz.prog 260:={ mkIxS Tryz.func260 (by kernel_rfl) (by kernel_rfl) (by kernel_rfl) (by kernel_rfl) [9,5] with f:=fun x=>f_ixS x.1 x.2.1,ok:=fun x y e=>Go.RK.Fn.ok (mkIxS (P:=Tryz.prog) (k:=260) Tryz.func260 (by kernel_rfl) (by kernel_rfl) (by kernel_rfl) (by kernel_rfl) [9,5]) x y (ix_some e) }
noncomputable def f_ixB (l:List UInt8) (c:UInt8):Option Int:=bif leI (-1) (Go.Lib.indexByte l c) then some (Go.Lib.indexByte l c) else none
noncomputable def c_ixB:Go.RK.Fn Tryz.prog 212:={ mkIxB Tryz.func212 (by kernel_rfl) (by kernel_rfl) (by kernel_rfl) (by kernel_rfl) [28,5] with f:=fun x=>f_ixB x.1 x.2.1,ok:=fun x y e=>Go.RK.Fn.ok (mkIxB (P:=Tryz.prog) (k:=212) Tryz.func212 (by kernel_rfl) (by kernel_rfl) (by kernel_rfl) (by kernel_rfl) [28,5]) x y (ix_some e) }
noncomputable def n_add {R:Type} (N:NatK R):NatK R:=natAdd 280 N
theorem n_add_ok {R:Type} {N:NatK R} (hN:NOkK Tryz.prog N):NOkK Tryz.prog (n_add N):=natAdd_ok hN Tryz.func280 (by kernel_rfl) (by kernel_rfl) (by kernel_rfl) (by kernel_rfl)
end Go.Proofs.YtjgeofdgdlmcoaaGreatDoor
namespace Go.Proofs.YtjgeofdgdlmcoaaGreatDoor
open Go Go.RK
open Go.RK.Uni (Ty El)
open Go.RK.Byt (bT)
set_option maxHeartbeats 2000000 in
set_option maxRecDepth 100000 in
theorem delete_any {h : Heap} {b o c L k : Nat} {e' : TypeId} {z : Nat × Nat} {cs : List Value} (hb : h[b]? = some (.cells ⟨cs⟩ e' z)) (hz : zOk z cs.length) (hc : L ≤ c) (hcm : c ≤ maxLen) (hcs : o + c ≤ cs.length) (h1 : ∀ v ∈ ((cs.drop o).take L).drop k, v.oneCell' = true) (hk : 0 < k ∧ k ≤ L) :
    CallsH Tryz.prog 100 ⟨[.slice (some ⟨b,o,Option.none⟩) L c,In 0,In (k:Int)]⟩ h fun u h'=>u=.slice (some ⟨b,o,Option.none⟩) (L - k) c∧(∃ cs',h'[b]?=some (.cells ⟨cs'⟩ e' z)∧cs'.length=cs.length∧cs'.take (o+(L - k))=cs.take o++((cs.drop o).take L).drop k)∧Ext (fun q=>q=b) h h':=by
  unfold maxLen at hcm
  have hl0:((cs.drop o).take L).length=L:=by rw [List.length_take,List.length_drop];omega
  have hrd0:Rd h (.slice (some ⟨b,o,Option.none⟩) L c) 1 L ((cs.drop o).take L):=⟨_,c,rfl,hc,by rw [hl0,Nat.mul_one],fun _=>⟨b,o,rfl,lt_of_some hb,fun j v hj=>by
    rw [List.getElem?_take] at hj
    split at hj
    · rw [List.getElem?_drop] at hj
      exact cell_of' hb rfl hj
    · cases hj⟩⟩
  have hrd:=hrd0.drop (l:=k) (by omega)
  have ek:((cs.drop o).take L).drop (k * 1)=((cs.drop o).take L).drop k:=by rw [Nat.mul_one]
  rw [ek] at hrd
  refine calls [(0,_),(1,_),(2,_)] Tryz.func100 rfl Tryz.ntmps100 rfl ⟨rfl,rfl,rfl,trivial⟩ ?_
  all_goals (refine WC.sr ?_)
  all_goals (refine Go ?_)
  all_goals (refine WC.sr ?_)
  all_goals (refine Go ?_)
  all_goals (refine WL.step (ok_slice_lhm Tryz.underlying28 (fun w=>Tryz.sizeOf5 w) rfl rfl rfl rfl (by omega)) rfl rfl rfl ?_)
  all_goals (refine Gn ?_)
  all_goals (refine Gs [(0,_),(1,_),(2,_)] ?_)
  all_goals (refine WC.seq ?_)
  all_goals (refine WC.sr ?_)
  all_goals (refine Go ?_)
  all_goals (refine goC 1 2 ?_ ?_ <;> first | exact ⟨⟩ | refine Hb.mk fun hb=>?_ | skip)
  all_goals (first | (fail_if_success refine goB 1 ?_) | (
  refine goB 1 ?_
  all_goals (refine WC.sr ?_)
  all_goals (refine Go ?_)
  all_goals (refine Gs [(6,_)] ?_)
  all_goals (refine Gt ?_)
  all_goals (rw [e6] at hl3
             refine ⟨by simp only [Int.toNat_zero,Nat.zero_add],⟨cs3,hb3,hl3,?_⟩,hx2.trans hx3⟩
             rw [ht3 _ (by simp only [Int.toNat_zero];omega),← List.append_assoc,List.take_append_of_le_length (by simp only [List.length_append,List.length_take,e5];omega),List.take_of_length_le (by simp only [List.length_append,List.length_take,e5];omega)])
  skip))
  all_goals (first | (fail_if_success refine goB 2 ?_) | (
  refine goB 2 ?_
  all_goals (refine WC.skip ?_)
  skip))
  all_goals (refine Gn ?_)
  all_goals (refine WC.sr ?_)
  all_goals (refine Go ?_)
  all_goals (refine Gs [(0,_),(1,_),(2,_),(7,_)] ?_)
  all_goals (refine WC.seq ?_)
  all_goals (refine WC.drawT 6 fol (by kernel_rfl) ?_)
  all_goals (show WS _ _ _ [_,_,_,_,_,_] _ _ _)
  all_goals (refine WS.step (ok_move rfl) rfl rfl rfl ?_)
  all_goals (refine WS.step (ok_move rfl) rfl rfl rfl ?_)
  all_goals (first | (refine WS.step (ok_slice_hN Tryz.underlying28 (fun w=>Tryz.sizeOf5 w) rfl rfl (by omega)) rfl rfl rfl ?_) | (refine WS.step (ok_slice_h Tryz.underlying28 (fun w=>Tryz.sizeOf5 w) rfl rfl (by omega)) rfl rfl rfl ?_))
  all_goals (refine WS.step (ok_move rfl) rfl rfl rfl ?_)
  all_goals (refine WS.step (ok_move rfl) rfl rfl rfl ?_)
  all_goals (first | (refine WS.step (ok_slice_lN Tryz.underlying28 (fun w=>Tryz.sizeOf5 w) rfl rfl (by omega)) rfl rfl rfl ?_) | (refine WS.step (ok_slice_lS Tryz.underlying28 (fun w=>Tryz.sizeOf5 w) rfl rfl (by omega)) rfl rfl rfl ?_) | (refine WS.step (ok_slice_l Tryz.underlying28 (fun w=>Tryz.sizeOf5 w) rfl rfl (by omega)) rfl rfl rfl ?_))
  all_goals (refine WS.nil ?_)
  all_goals (show WL _ _ _ [_,_] _ _ _)
  all_goals (refine WL.stepR (okE_appendZ (sz := 1) rfl Tryz.underlying28 (show Tryz.prog.info? 5 = some Tryz.t5 by kernel_rfl) rfl rfl rfl hb hz (by omega) hrd h1 (by omega)) rfl rfl rfl ?_
             rintro _ h2 ⟨rfl,hb2,hx2⟩)
  all_goals (simp only [Int.toNat_zero, Nat.zero_add, Nat.zero_mul, Nat.mul_one, Nat.add_zero] at hb2
             have e5:(((cs.drop o).take L).drop k).length=L - k:=by rw [List.length_drop,hl0]
             have e6:(cs.take o++(((cs.drop o).take L).drop k++cs.drop (o+(((cs.drop o).take L).drop k).length))).length=cs.length:=by simp only [List.length_append,List.length_take,List.length_drop];omega)
  all_goals (refine WL.step (ok_assign rfl) rfl rfl rfl ?_)
  all_goals (refine WL.nil ?_)
  all_goals (refine Gn ?_)
  all_goals (refine Gs [(0,_),(7,_)] ?_)
  all_goals (refine WC.sr ?_)
  all_goals (refine Go ?_)
  all_goals (first | (refine WL.step (ok_slice_lhN Tryz.underlying28 (fun w=>Tryz.sizeOf5 w) rfl rfl rfl (by omega)) rfl rfl rfl ?_) | (refine WL.step (ok_slice_lh Tryz.underlying28 (fun w=>Tryz.sizeOf5 w) rfl rfl rfl (by omega)) rfl rfl rfl ?_))
  all_goals (refine WL.stepR0 (okE_clearZ (o := o + (Int.toNat 0 + (L - k)) * 1) rfl Tryz.underlying28 (fun w => Tryz.zeroValue5 w) rfl (by rw [if_neg (by simp only [Int.toNat_zero]; omega)]; simp only [Option.map_some, Addr.add_lit]) (by omega) hb2 (by rw [e6]; exact hz) (by rw [e6]; show _ + _ * 1 ≤ _; simp only [Int.toNat_zero]; omega) (by simp [Value.cells, Value.oneCell'])) rfl rfl ?_
             rintro _ h3 ⟨cs3,hb3,hl3,ht3,hx3⟩)
  all_goals (refine Gn ?_)
  all_goals (refine Gs [(0,_)] ?_)
  all_goals (refine WC.sr ?_)
  all_goals (refine Go ?_)
  all_goals (refine Gt ?_)
  all_goals (rw [e6] at hl3
             refine ⟨by simp only [Int.toNat_zero,Nat.zero_add],⟨cs3,hb3,hl3,?_⟩,hx2.trans hx3⟩
             rw [ht3 _ (by simp only [Int.toNat_zero];omega),← List.append_assoc,List.take_append_of_le_length (by simp only [List.length_append,List.length_take,e5];omega),List.take_of_length_le (by simp only [List.length_append,List.length_take,e5];omega)])
end Go.Proofs.YtjgeofdgdlmcoaaGreatDoor
namespace Go.Proofs.YtjgeofdgdlmcoaaGreatDoor
open Go Go.RK
open Go.RK.Uni (Ty El)
open Go.RK.Byt (bT)
noncomputable def f_del (l:List UInt8) (i j:Int):Option (List UInt8):=bif decide (i=0) && (ltI 0 j && leI j (Int.ofNat l.length)) then some (l.drop j.toNat) else none
noncomputable def c_del:Go.RK.Fn Tryz.prog 100:=mkDel en0 (by kernel_rfl) (fun h1 h2 h3 h4 h5 h6 h7=>delete_any h1 h2 h3 h4 h5 h6 h7) [28,3,3] 5 f_del fun l i j y e=>by
  unfold f_del at e
  obtain ⟨h1,e⟩:=bif_some e
  injection e with e
  simp only [ltI_eq,leI_eq,Bool.and_eq_true,decide_eq_true_eq] at h1
  obtain ⟨h1,h2,h3⟩:=h1
  have h3:j≤(l.length:Int):=h3
  exact ⟨j.toNat,h1,by omega,by omega,by show j.toNat≤l.length;omega,e.symm⟩
end Go.Proofs.YtjgeofdgdlmcoaaGreatDoor
namespace Go.Proofs
open Go.Shelf
def Tryz.lays156_ren:Go.Shelf.Ren:=⟨fun | 156=>234 | 165=>269 | 166=>270 | 169=>239 | 240=>271 | 241=>282 | 276=>283 | 277=>290 | n=>n,fun | 31=>314 | 9=>9 | 3=>3 | 4=>4 | 0=>0 | 20=>20 | 72=>318 | 76=>339 | 70=>316 | 37=>28 | 75=>153 | 127=>341 | 164=>175 | 5=>5 | 80=>302 | n=>n,fun | n=>n⟩
theorem Tryz.lays156:Go.Proofs.Lays.n156 Tryz.prog Tryz.lays156_ren:={
  mixed:=by kernel_rfl
  f156:=Tryz.func234.trans (congrArg some (by kernel_rfl))
  f165:=Tryz.func269.trans (congrArg some (by kernel_rfl))
  f166:=Tryz.func270.trans (congrArg some (by kernel_rfl))
  f169:=Tryz.func239.trans (congrArg some (by kernel_rfl))
  f240:=Tryz.func271.trans (congrArg some (by kernel_rfl))
  f241:=Tryz.func282.trans (congrArg some (by kernel_rfl))
  f276:=Tryz.func283.trans (congrArg some (by kernel_rfl))
  f277:=Tryz.func290.trans (congrArg some (by kernel_rfl))
  t0:=Tryz.underlying0
  a0:=Tryz.isAgg0
  z0:=Tryz.sizeOf0
  v0:=Tryz.zeroValue0
  t3:=Tryz.underlying3
  a3:=Tryz.isAgg3
  z3:=Tryz.sizeOf3
  v3:=Tryz.zeroValue3
  t4:=Tryz.underlying4
  a4:=Tryz.isAgg4
  z4:=Tryz.sizeOf4
  v4:=Tryz.zeroValue4
  t9:=Tryz.underlying9
  a9:=Tryz.isAgg9
  z9:=Tryz.sizeOf9
  v9:=Tryz.zeroValue9
  t20:=Tryz.underlying20
  a20:=Tryz.isAgg20
  z20:=Tryz.sizeOf20
  v20:=Tryz.zeroValue20
  t31:=Tryz.underlying314
  a31:=Tryz.isAgg314
  z31:=Tryz.sizeOf314
  v31:=Tryz.zeroValue314
  t37:=Tryz.underlying28
  a37:=Tryz.isAgg28
  z37:=Tryz.sizeOf28
  v37:=Tryz.zeroValue28
  t70:=Tryz.underlying316
  a70:=Tryz.isAgg316
  z70:=Tryz.sizeOf316
  v70:=Tryz.zeroValue316
  t72:=Tryz.underlying318
  a72:=Tryz.isAgg318
  z72:=Tryz.sizeOf318
  v72:=Tryz.zeroValue318
  t75:=Tryz.underlying153
  a75:=Tryz.isAgg153
  z75:=Tryz.sizeOf153
  v75:=Tryz.zeroValue153
  t76:=Tryz.underlying339
  a76:=Tryz.isAgg339
  z76:=Tryz.sizeOf339
  v76:=Tryz.zeroValue339
  t127:=Tryz.underlying341
  a127:=Tryz.isAgg341
  z127:=Tryz.sizeOf341
  v127:=Tryz.zeroValue341
  t164:=Tryz.underlying175
  a164:=Tryz.isAgg175
  z164:=Tryz.sizeOf175
  v164:=Tryz.zeroValue175 }
theorem Tryz.Builder_Extra_156:Builder.Extra Tryz.prog Tryz.lays156_ren:={
  sizeBuilder:=by kernel_rfl
  liesBuilder:=by kernel_rfl
  t5:=Tryz.underlying5
  a5:=Tryz.isAgg5
  z5:=Tryz.sizeOf5
  v5:=Tryz.zeroValue5
  infoByte:=by kernel_rfl
  cellsByte:=by kernel_rfl
  sizeByte:=by kernel_rfl
  neB5:=by decide }
open Go.RowKit in
theorem Tryz.strings_Join (bk o c : Nat) (xs : List ByteArray) (sep : ByteArray) (w : World) (hcells : ∀ (j : Nat) x, xs[j]? = some x → w.cell? ⟨bk, o + j, none⟩ = some (.string x)) (hbk : bk < w.heap.size) (hN : xs.length ≤ 140737488355328) (hcap : xs.length ≤ c) (hlen : (Lib.join (xs.map (·.data.toList)) sep.data.toList).length ≤ 140737488355328) :
    Calls Tryz.prog 234 #[.slice (some ⟨bk,o,none⟩) xs.length c,.string sep] w fun e w'=>e=.returned (.string ⟨(Lib.join (xs.map (·.data.toList)) sep.data.toList).toArray⟩)∧Below w.heap.size w w':=Any.strings_Join Tryz.lays156 Tryz.Builder_Extra_156 bk o c xs sep w hcells hbk hN hcap hlen
end Go.Proofs
namespace Go.Proofs.YtjgeofdgdlmcoaaGreatDoor
open Go Go.RK Go.RowKit
open Go.RK.Uni (Ty El)
open Go.RK.Byt (bT)
theorem below_calls {P:Program} {k:FuncId} {args:Array Value} {h:Heap} {v:Value} (hc:∀ w:World,w.heap=h→Calls P k args w fun e w'=>e=.returned v∧Below w.heap.size w w'):CallsH P k args h fun u h'=>u=v∧Ext No h h' :=
  fun w hw=>(hc w hw).mono fun e w' ⟨he,hb⟩=>⟨⟨hb.tape,hb.os,hb.output,trivial⟩,v,he,rfl,by subst hw;exact ⟨hb.size,fun b hlt _=>hb.block b hlt⟩⟩
theorem join3 {h : Heap} {b : Nat} (a c d : List UInt8) (hb : h[b]? = some (.cells ⟨[St a, St c, St d]⟩ 9 (0, 0))) (hl : a.length + c.length + d.length ≤ 1000000) :
    CallsH Tryz.prog 234 ⟨[.slice (some ⟨b,0,none⟩) 3 3,St [32]]⟩ h fun u h'=>u=St (a++[32]++c++[32]++d)∧Ext No h h':=by
  have e:Lib.join ([ByteArray.mk ⟨a⟩,⟨⟨c⟩⟩,⟨⟨d⟩⟩].map (·.data.toList)) (ByteArray.mk ⟨[32]⟩).data.toList=a++[32]++c++[32]++d:=by
    show Lib.join [a,c,d] [32]=_
    rw [Lib.join_cons]
    simp [Lib.joinTail]
  refine below_calls fun w hw=>?_
  subst hw
  have:=Tryz.strings_Join b 0 3 [⟨⟨a⟩⟩,⟨⟨c⟩⟩,⟨⟨d⟩⟩] ⟨⟨[32]⟩⟩ w (fun j x hj=>?_) (lt_of_some hb) (by simp) (by simp) (by rw [e];simp;omega)
  · rw [e] at this
    exact this
  · rw [cell_eq,cell_of hb,Nat.zero_add]
    rcases j with _ | _ | _ | j <;> simp at hj ⊢
    all_goals (subst hj;rfl)
end Go.Proofs.YtjgeofdgdlmcoaaGreatDoor
namespace Go.Proofs.YtjgeofdgdlmcoaaGreatDoor
open Go Go.RK
open Go.RK.Uni (Ty El)
open Go.RK.Byt (bT)
def quoteL (n:List UInt8):List UInt8:=[34]++n++[34]
def saysL (t n w:List UInt8):List UInt8:=t++[32]++quoteL n++[32]++w
theorem quote_len (n:List UInt8):(quoteL n).length=n.length+2:=by simp [quoteL]
set_option maxHeartbeats 2000000 in
set_option maxRecDepth 100000 in
theorem quote_any {h:Heap} (n:List UInt8) (hn:n.length≤1000000):CallsH Tryz.prog 235 ⟨[St n]⟩ h fun u h'=>u=St (quoteL n)∧h'=h:=by
  refine calls [(0,_)] Tryz.func235 rfl Tryz.ntmps235 rfl ⟨rfl,trivial⟩ ?_
  all_goals (refine WC.sr ?_)
  all_goals (refine Go ?_)
  all_goals (refine WC.sr ?_)
  all_goals (refine Go ?_)
  all_goals (refine WL.step (ok_catS rfl rfl (by first | (simp only [List.length_append,List.length_cons,List.length_nil];omega) | (simp;omega))) rfl rfl rfl ?_)
  all_goals (refine WL.step (ok_catS rfl rfl (by first | (simp only [List.length_append,List.length_cons,List.length_nil];omega) | (simp;omega))) rfl rfl rfl ?_)
  all_goals (refine Go ?_)
  all_goals (refine Gs [(2,_)] ?_)
  all_goals (refine Gt ?_)
  all_goals (exact ⟨rfl,rfl⟩)
set_option maxHeartbeats 2000000 in
set_option maxRecDepth 100000 in
theorem says_any {h:Heap} (t n w:List UInt8) (ht:t.length≤100) (hn:n.length≤100000) (hw:w.length≤100):CallsH Tryz.prog 186 ⟨[St t,St n,St w]⟩ h fun u h'=>u=St (saysL t n w)∧Ext No h h':=by
  have hq:=quote_len n
  refine calls [(0,_),(1,_),(2,_)] Tryz.func186 rfl Tryz.ntmps186 rfl ⟨rfl,rfl,rfl,trivial⟩ ?_
  all_goals (refine WC.sr ?_)
  all_goals (refine Go ?_)
  all_goals (refine WC.sr ?_)
  all_goals (refine Go ?_)
  all_goals (refine WL.call (vs := [_]) rfl (fun a w => Tryz.call235 a w) rfl (quote_any n (by omega)) rfl rfl rfl ?_
             rintro _ hz ⟨rfl,_⟩
             subst hz)
  all_goals (refine Go ?_)
  all_goals (refine WL.stepR (okE_buildSlice (vs := [_, _, _]) (cs := [_, _, _]) (fun | [a0, a1, a2] => [a0, a1, a2] | _ => []) Tryz.underlying314 rfl rfl (by kernel_rfl)) rfl rfl rfl ?_
             rintro _ h1 ⟨b1,rfl,hg1,hb1,hx1⟩)
  all_goals (refine WL.call (vs := [_, _]) rfl (fun a w => Tryz.call234 a w) rfl (join3 t (quoteL n) w hb1 (by omega)) rfl rfl rfl ?_
             rintro _ h2 ⟨rfl,hx2⟩)
  all_goals (refine Go ?_)
  all_goals (refine Gs [(6,_)] ?_)
  all_goals (refine Gt ?_)
  all_goals (exact ⟨rfl,hx1.trans hx2⟩)
noncomputable def f_says (t n w:Bs):Option Bs:=bif Nat.ble t.length 100 && (Nat.ble n.length 100000 && Nat.ble w.length 100) then some (t++[32]++([34]++n++[34])++[32]++w) else none
noncomputable def c_says:Go.RK.Fn Tryz.prog 186:=mkS3 en0 (by kernel_rfl) [9,9,9] f_says (fun t n w s e h=>by
  obtain ⟨h1,e⟩:=bif_some e
  simp only [Bool.and_eq_true] at h1
  injection e with e
  subst e
  exact says_any t n w (Nat.le_of_ble_eq_true h1.1) (Nat.le_of_ble_eq_true h1.2.1) (Nat.le_of_ble_eq_true h1.2.2))
end Go.Proofs.YtjgeofdgdlmcoaaGreatDoor
namespace Go.Proofs.YtjgeofdgdlmcoaaGreatDoor
open Go Go.RK
open Go.RK.Uni (Ty El)
open Go.RK.Byt (bT)
theorem ix_bd (l:List UInt8) (c:UInt8) : -1≤Go.Lib.indexByte l c∧Go.Lib.indexByte l c < l.length:=by
  induction l with
  | nil=>exact ⟨Int.le_refl _,by show (-1:Int) < 0;omega⟩
  | cons b l ih =>
    unfold Go.Lib.indexByte
    rw [List.length_cons]
    split
    · omega
    · split
      · omega
      · rename_i h
        have:Go.Lib.indexByte l c ≠ -1:=fun e=>h (by rw [e];rfl)
        omega
theorem t_ixS (l:List UInt8) (c:UInt8):Tt (f_ixS l c) fun y => -1≤y∧y < l.length:=by
  unfold f_ixS
  have:=ix_bd l c
  exact Tt.ok (by simp;omega) (Tt.ret this)
theorem t_ixB (l:List UInt8) (c:UInt8):Tt (f_ixB l c) fun y => -1≤y∧y < l.length:=by
  unfold f_ixB
  have:=ix_bd l c
  exact Tt.ok (by simp;omega) (Tt.ret this)
theorem t_says (t n w:Bs) (h0:t.length≤100) (h1:n.length≤4000) (h2:w.length≤100):Tt (f_says t n w) fun y=>y.length≤4204:=by
  unfold f_says
  refine Tt.ok ?_ (Tt.ret ?_)
  · simp
    omega
  · simp
    omega
theorem t_del (l:List UInt8) (i j:Int) (h0:i=0∧0 < j∧j≤l.length):Tt (α:=List UInt8) (f_del l i j) fun y=>y.length+j.toNat=l.length∧y=l.drop j.toNat:=by
  obtain ⟨rfl,h1,h2⟩:=h0
  unfold f_del
  refine Tt.ok ?_ (Tt.ret ?_)
  · simp
    omega
  · simp
    omega
theorem t_text (n:Int) (h0 : -9223372036854775808≤n∧n≤9223372036854775807):Tt (α:=List UInt8) (f_text n) fun y=>y.length≤21:=by
  unfold f_text
  refine Tt.ok ?_ (Tt.ret ?_)
  · simp
    omega
  · exact deci_len n (by omega)
def CellsB (l:List (Cell)):Prop:=∀ x∈l,x.bytes.length≤4000
@[grind =] theorem CellsB_nil:CellsB []=True:=eq_true fun _ h=>by cases h
@[grind =] theorem CellsB_cons (a:Cell) (l:List (Cell)):CellsB (a :: l)=((a.bytes.length≤4000)∧CellsB l):=by
  unfold CellsB
  simp
@[grind =] theorem CellsB_app (a b:List (Cell)):CellsB (a++b)=(CellsB a∧CellsB b):=by
  rw [eq_iff_iff]
  exact ⟨fun h=>⟨fun x hx=>h x (List.mem_append_left _ hx),fun x hx=>h x (List.mem_append_right _ hx)⟩,fun h x hx=>(List.mem_append.1 hx).elim (h.1 x) (h.2 x)⟩
@[grind =] theorem CellsB_take {n:Nat} {l:List (Cell)} (h:CellsB l):CellsB (l.take n)=True:=eq_true fun x hx=>h x (List.mem_of_mem_take hx)
@[grind =] theorem CellsB_drop {n:Nat} {l:List (Cell)} (h:CellsB l):CellsB (l.drop n)=True:=eq_true fun x hx=>h x (List.mem_of_mem_drop hx)
@[grind =] theorem CellsB_rep {n:Nat} {a:Cell} (h:a.bytes.length≤4000):CellsB (List.replicate n a)=True:=eq_true fun x hx=>by rw [List.eq_of_mem_replicate hx];exact h
@[grind =] theorem CellsB_set {n:Nat} {a:Cell} {l:List (Cell)} (h:CellsB l) (ha:a.bytes.length≤4000):CellsB (l.set n a)=True:=eq_true fun x hx=>by
  rcases List.mem_or_eq_of_mem_set hx with hx | rfl
  · exact h x hx
  · exact ha
theorem CellsB_get {l:List (Cell)} {i:Int} (h:CellsB l) (h0:0≤i) (h1:i < l.length):(fun x:Cell=>x.bytes.length≤4000) (getU (t:=Tm.cell) l i):=by
  refine h _ ?_
  have e:(getU (t:=Tm.cell) l i:Cell)=l[i.toNat]'(by omega):=by
    show l.getD i.toNat _=_
    rw [List.getD_eq_getElem?_getD,List.getElem?_eq_getElem (by omega)]
    rfl
  rw [e]
  exact List.getElem_mem _
@[grind =] theorem CellsB_g0 {l:List (Cell)} {i:Int} (h:CellsB l) (h0:0≤i) (h1:i < l.length):(getU (t:=Tm.cell) l i).bytes.length=min ((getU (t:=Tm.cell) l i).bytes.length) 4000:=(Nat.min_eq_left (CellsB_get h h0 h1)).symm
def RowsB (l:List (List Cell)):Prop:=∀ x∈l,x.length≤4000∧CellsB x
@[grind =] theorem RowsB_nil:RowsB []=True:=eq_true fun _ h=>by cases h
@[grind =] theorem RowsB_cons (a:List Cell) (l:List (List Cell)):RowsB (a :: l)=((a.length≤4000∧CellsB a)∧RowsB l):=by
  unfold RowsB
  simp
@[grind =] theorem RowsB_app (a b:List (List Cell)):RowsB (a++b)=(RowsB a∧RowsB b):=by
  rw [eq_iff_iff]
  exact ⟨fun h=>⟨fun x hx=>h x (List.mem_append_left _ hx),fun x hx=>h x (List.mem_append_right _ hx)⟩,fun h x hx=>(List.mem_append.1 hx).elim (h.1 x) (h.2 x)⟩
@[grind =] theorem RowsB_take {n:Nat} {l:List (List Cell)} (h:RowsB l):RowsB (l.take n)=True:=eq_true fun x hx=>h x (List.mem_of_mem_take hx)
@[grind =] theorem RowsB_drop {n:Nat} {l:List (List Cell)} (h:RowsB l):RowsB (l.drop n)=True:=eq_true fun x hx=>h x (List.mem_of_mem_drop hx)
@[grind =] theorem RowsB_rep {n:Nat} {a:List Cell} (h:a.length≤4000∧CellsB a):RowsB (List.replicate n a)=True:=eq_true fun x hx=>by rw [List.eq_of_mem_replicate hx];exact h
@[grind =] theorem RowsB_set {n:Nat} {a:List Cell} {l:List (List Cell)} (h:RowsB l) (ha:a.length≤4000∧CellsB a):RowsB (l.set n a)=True:=eq_true fun x hx=>by
  rcases List.mem_or_eq_of_mem_set hx with hx | rfl
  · exact h x hx
  · exact ha
theorem RowsB_get {l:List (List Cell)} {i:Int} (h:RowsB l) (h0:0≤i) (h1:i < l.length):(fun x:List Cell=>x.length≤4000∧CellsB x) (getU (t:=Tm.cells) l i):=by
  refine h _ ?_
  have e:(getU (t:=Tm.cells) l i:List Cell)=l[i.toNat]'(by omega):=by
    show l.getD i.toNat _=_
    rw [List.getD_eq_getElem?_getD,List.getElem?_eq_getElem (by omega)]
    rfl
  rw [e]
  exact List.getElem_mem _
@[grind =] theorem RowsB_g0 {l:List (List Cell)} {i:Int} (h:RowsB l) (h0:0≤i) (h1:i < l.length):(getU (t:=Tm.cells) l i).length=min ((getU (t:=Tm.cells) l i).length) 4000:=(Nat.min_eq_left (RowsB_get h h0 h1).1).symm
@[grind =] theorem RowsB_g1 {l:List (List Cell)} {i:Int} (h:RowsB l) (h0:0≤i) (h1:i < l.length):CellsB (getU (t:=Tm.cells) l i)=True:=eq_true (RowsB_get h h0 h1).2
def ColsB (l:List (Col)):Prop:=∀ x∈l,x.name.length≤4000
@[grind =] theorem ColsB_nil:ColsB []=True:=eq_true fun _ h=>by cases h
@[grind =] theorem ColsB_cons (a:Col) (l:List (Col)):ColsB (a :: l)=((a.name.length≤4000)∧ColsB l):=by
  unfold ColsB
  simp
@[grind =] theorem ColsB_app (a b:List (Col)):ColsB (a++b)=(ColsB a∧ColsB b):=by
  rw [eq_iff_iff]
  exact ⟨fun h=>⟨fun x hx=>h x (List.mem_append_left _ hx),fun x hx=>h x (List.mem_append_right _ hx)⟩,fun h x hx=>(List.mem_append.1 hx).elim (h.1 x) (h.2 x)⟩
@[grind =] theorem ColsB_take {n:Nat} {l:List (Col)} (h:ColsB l):ColsB (l.take n)=True:=eq_true fun x hx=>h x (List.mem_of_mem_take hx)
@[grind =] theorem ColsB_drop {n:Nat} {l:List (Col)} (h:ColsB l):ColsB (l.drop n)=True:=eq_true fun x hx=>h x (List.mem_of_mem_drop hx)
@[grind =] theorem ColsB_rep {n:Nat} {a:Col} (h:a.name.length≤4000):ColsB (List.replicate n a)=True:=eq_true fun x hx=>by rw [List.eq_of_mem_replicate hx];exact h
@[grind =] theorem ColsB_set {n:Nat} {a:Col} {l:List (Col)} (h:ColsB l) (ha:a.name.length≤4000):ColsB (l.set n a)=True:=eq_true fun x hx=>by
  rcases List.mem_or_eq_of_mem_set hx with hx | rfl
  · exact h x hx
  · exact ha
theorem ColsB_get {l:List (Col)} {i:Int} (h:ColsB l) (h0:0≤i) (h1:i < l.length):(fun x:Col=>x.name.length≤4000) (getU (t:=Tm.col) l i):=by
  refine h _ ?_
  have e:(getU (t:=Tm.col) l i:Col)=l[i.toNat]'(by omega):=by
    show l.getD i.toNat _=_
    rw [List.getD_eq_getElem?_getD,List.getElem?_eq_getElem (by omega)]
    rfl
  rw [e]
  exact List.getElem_mem _
@[grind =] theorem ColsB_g0 {l:List (Col)} {i:Int} (h:ColsB l) (h0:0≤i) (h1:i < l.length):(getU (t:=Tm.col) l i).name.length=min ((getU (t:=Tm.col) l i).name.length) 4000:=(Nat.min_eq_left (ColsB_get h h0 h1)).symm
def FieldsB (l:List (Field)):Prop:=∀ x∈l,x.text.length≤5000
@[grind =] theorem FieldsB_nil:FieldsB []=True:=eq_true fun _ h=>by cases h
@[grind =] theorem FieldsB_cons (a:Field) (l:List (Field)):FieldsB (a :: l)=((a.text.length≤5000)∧FieldsB l):=by
  unfold FieldsB
  simp
@[grind =] theorem FieldsB_app (a b:List (Field)):FieldsB (a++b)=(FieldsB a∧FieldsB b):=by
  rw [eq_iff_iff]
  exact ⟨fun h=>⟨fun x hx=>h x (List.mem_append_left _ hx),fun x hx=>h x (List.mem_append_right _ hx)⟩,fun h x hx=>(List.mem_append.1 hx).elim (h.1 x) (h.2 x)⟩
@[grind =] theorem FieldsB_take {n:Nat} {l:List (Field)} (h:FieldsB l):FieldsB (l.take n)=True:=eq_true fun x hx=>h x (List.mem_of_mem_take hx)
@[grind =] theorem FieldsB_drop {n:Nat} {l:List (Field)} (h:FieldsB l):FieldsB (l.drop n)=True:=eq_true fun x hx=>h x (List.mem_of_mem_drop hx)
@[grind =] theorem FieldsB_rep {n:Nat} {a:Field} (h:a.text.length≤5000):FieldsB (List.replicate n a)=True:=eq_true fun x hx=>by rw [List.eq_of_mem_replicate hx];exact h
@[grind =] theorem FieldsB_set {n:Nat} {a:Field} {l:List (Field)} (h:FieldsB l) (ha:a.text.length≤5000):FieldsB (l.set n a)=True:=eq_true fun x hx=>by
  rcases List.mem_or_eq_of_mem_set hx with hx | rfl
  · exact h x hx
  · exact ha
theorem FieldsB_get {l:List (Field)} {i:Int} (h:FieldsB l) (h0:0≤i) (h1:i < l.length):(fun x:Field=>x.text.length≤5000) (getU (t:=Tm.field) l i):=by
  refine h _ ?_
  have e:(getU (t:=Tm.field) l i:Field)=l[i.toNat]'(by omega):=by
    show l.getD i.toNat _=_
    rw [List.getD_eq_getElem?_getD,List.getElem?_eq_getElem (by omega)]
    rfl
  rw [e]
  exact List.getElem_mem _
@[grind =] theorem FieldsB_g0 {l:List (Field)} {i:Int} (h:FieldsB l) (h0:0≤i) (h1:i < l.length):(getU (t:=Tm.field) l i).text.length=min ((getU (t:=Tm.field) l i).text.length) 5000:=(Nat.min_eq_left (FieldsB_get h h0 h1)).symm
def BackB (b:Back):Prop:=b.tag.length≤4000∧b.name.length≤4000∧b.value.length≤4000∧b.oids.length≤4000∧b.cols.length≤4000∧ColsB b.cols∧b.row.length≤4000∧CellsB b.row∧b.fields.length≤100∧FieldsB b.fields
attribute [grind =] BackB
def FrontB (b:Front):Prop:=b.name.length≤4000∧b.portal.length≤4000∧b.text.length≤4000∧b.oids.length≤4000∧b.formats.length≤4000∧b.results.length≤4000∧b.params.length≤4000∧CellsB b.params
attribute [grind =] FrontB
def BacksB (l:List (Back)):Prop:=∀ x∈l,BackB x
@[grind =] theorem BacksB_nil:BacksB []=True:=eq_true fun _ h=>by cases h
@[grind =] theorem BacksB_cons (a:Back) (l:List (Back)):BacksB (a :: l)=((BackB a)∧BacksB l):=by
  unfold BacksB
  simp
@[grind =] theorem BacksB_app (a b:List (Back)):BacksB (a++b)=(BacksB a∧BacksB b):=by
  rw [eq_iff_iff]
  exact ⟨fun h=>⟨fun x hx=>h x (List.mem_append_left _ hx),fun x hx=>h x (List.mem_append_right _ hx)⟩,fun h x hx=>(List.mem_append.1 hx).elim (h.1 x) (h.2 x)⟩
@[grind =] theorem BacksB_take {n:Nat} {l:List (Back)} (h:BacksB l):BacksB (l.take n)=True:=eq_true fun x hx=>h x (List.mem_of_mem_take hx)
@[grind =] theorem BacksB_drop {n:Nat} {l:List (Back)} (h:BacksB l):BacksB (l.drop n)=True:=eq_true fun x hx=>h x (List.mem_of_mem_drop hx)
@[grind =] theorem BacksB_rep {n:Nat} {a:Back} (h:BackB a):BacksB (List.replicate n a)=True:=eq_true fun x hx=>by rw [List.eq_of_mem_replicate hx];exact h
@[grind =] theorem BacksB_set {n:Nat} {a:Back} {l:List (Back)} (h:BacksB l) (ha:BackB a):BacksB (l.set n a)=True:=eq_true fun x hx=>by
  rcases List.mem_or_eq_of_mem_set hx with hx | rfl
  · exact h x hx
  · exact ha
theorem BacksB_get {l:List (Back)} {i:Int} (h:BacksB l) (h0:0≤i) (h1:i < l.length):(fun x:Back=>BackB x) (getU (t:=Tm.back) l i):=by
  refine h _ ?_
  have e:(getU (t:=Tm.back) l i:Back)=l[i.toNat]'(by omega):=by
    show l.getD i.toNat _=_
    rw [List.getD_eq_getElem?_getD,List.getElem?_eq_getElem (by omega)]
    rfl
  rw [e]
  exact List.getElem_mem _
@[grind =] theorem BacksB_g0 {l:List (Back)} {i:Int} (h:BacksB l) (h0:0≤i) (h1:i < l.length):BackB (getU (t:=Tm.back) l i)=True:=eq_true (BacksB_get h h0 h1)
def StmtB (b:Stmt):Prop:=b.text.length≤4000∧b.oids.length≤4000
attribute [grind =] StmtB
def PortalB (b:Portal):Prop:=StmtB b.stmt∧b.params.length≤4000∧CellsB b.params∧b.rows.length≤1000∧RowsB b.rows
attribute [grind =] PortalB
theorem mem_look {α:Type} {l:List (Bs × α)} {k:Bs} {v:α} (e:mlook l k=some v):∃ k',(k',v)∈l:=by
  unfold mlook at e
  rw [Option.map_eq_some_iff] at e
  obtain ⟨p,h,rfl⟩:=e
  exact ⟨p.1,List.mem_of_find?_eq_some h⟩
theorem mem_put {α:Type} {l:List (Bs × α)} {k:Bs} {v:α} {x:Bs × α} (h:x∈mput l k v):x.2=v∨x∈l:=by
  unfold mput at h
  split at h
  · obtain ⟨p,hp,e⟩:=List.mem_map.1 h
    split at e
    · subst e;exact .inl rfl
    · subst e;exact .inr hp
  · rcases List.mem_append.1 h with h | h
    · exact .inr h
    · rw [List.mem_singleton] at h;subst h;exact .inl rfl
def StmtsB (l:List (Bs × Stmt)):Prop:=∀ x∈l,StmtB x.2
@[grind =] theorem StmtsB_nil:StmtsB []=True:=eq_true fun _ h=>by cases h
@[grind =] theorem StmtsB_put {l:List (Bs × Stmt)} {k:Bs} {v:Stmt} (h:StmtsB l) (hv:StmtB v):StmtsB (mput l k v)=True:=eq_true fun x hx=>by
  rcases mem_put hx with e | e
  · rw [e];exact hv
  · exact h x e
@[grind =] theorem StmtsB_del {l:List (Bs × Stmt)} {k:Bs} (h:StmtsB l):StmtsB (mdel l k)=True:=eq_true fun x hx=>h x (List.mem_filter.1 hx).1
@[grind →] theorem StmtsB_look {l:List (Bs × Stmt)} {k:Bs} {v:Stmt} (e:mlook l k=some v) (h:StmtsB l):StmtB v:=by
  obtain ⟨k',hm⟩:=mem_look e
  exact h _ hm
def PortalsB (l:List (Bs × Portal)):Prop:=∀ x∈l,PortalB x.2
@[grind =] theorem PortalsB_nil:PortalsB []=True:=eq_true fun _ h=>by cases h
@[grind =] theorem PortalsB_put {l:List (Bs × Portal)} {k:Bs} {v:Portal} (h:PortalsB l) (hv:PortalB v):PortalsB (mput l k v)=True:=eq_true fun x hx=>by
  rcases mem_put hx with e | e
  · rw [e];exact hv
  · exact h x e
@[grind =] theorem PortalsB_del {l:List (Bs × Portal)} {k:Bs} (h:PortalsB l):PortalsB (mdel l k)=True:=eq_true fun x hx=>h x (List.mem_filter.1 hx).1
@[grind →] theorem PortalsB_look {l:List (Bs × Portal)} {k:Bs} {v:Portal} (e:mlook l k=some v) (h:PortalsB l):PortalB v:=by
  obtain ⟨k',hm⟩:=mem_look e
  exact h _ hm
@[grind =] theorem StmtsB_get {l:List (Bs × Stmt)} {k:Bs} {d:Stmt} (h:StmtsB l) (hd:StmtB d):StmtB (Option.getD (mlook l k) d)=True:=eq_true (by
  cases e:mlook l k with
  | none=>exact hd
  | some v=>exact StmtsB_look e h)
end Go.Proofs.YtjgeofdgdlmcoaaGreatDoor
namespace Go.Proofs.YtjgeofdgdlmcoaaGreatDoor
open Go Go.RK
open Go.RK.Uni (Ty El)
open Go.RK.Byt (bT)
noncomputable def f_byEqual (a0:Bs) (a1:Bs):Option ((Bool × Unit) × Unit) :=
 some ((decide (a0=a1),()),())
noncomputable def c_byEqual:Go.RK.Fn Tryz.prog 17:=mkFn hm0 en0 (by kernel_rfl) [28,28] [4] (tC (qR .by (nu 0)) (tC (qR .by (nu 0)) tNil)) (tC (qB (nu 0)) tNil) tNil 0 0 (nat0_ok _) [] (by kernel_rfl) (fun x=>f_byEqual x.1 x.2.1) fun x=>by kernel_rfl
noncomputable def f_byHasPrefix (a0:Bs) (a1:Bs):Option ((Bool × Unit) × Unit) :=
 bif (leI (Int.ofNat (List.length a1)) (Int.ofNat (List.length a0))) then
  bif (true && ((leI (0:Int) (Int.ofNat (List.length a1))) && (true && ((Nat.ble (0:Nat) (Int.toNat (Int.ofNat (List.length a1)))) && ((Nat.ble (Int.toNat (Int.ofNat (List.length a1))) (Int.toNat (Int.ofNat (List.length a1)))) && (Nat.ble (Int.toNat (Int.ofNat (List.length a1))) (List.length a0))))))) then
   some ((decide ((List.take ((Int.toNat (Int.ofNat (List.length a1))) - (0:Nat)) (List.drop (0:Nat) a0))=a1),()),())
  else none
 else some ((false,()),())
noncomputable def c_byHasPrefix:Go.RK.Fn Tryz.prog 8:=mkFn hm0 en0 (by kernel_rfl) [28,28] [4] (tC (qR .by (nu 0)) (tC (qR .by (nu 0)) tNil)) (tC (qB (nu 0)) tNil) tNil 0 0 (natX_ok c_byEqual (nat0_ok _)) [] (by kernel_rfl) (fun x=>f_byHasPrefix x.1 x.2.1) fun x=>by kernel_rfl
noncomputable def f_byHasSuffix (a0:Bs) (a1:Bs):Option ((Bool × Unit) × Unit) :=
 bif (leI (Int.ofNat (List.length a1)) (Int.ofNat (List.length a0))) then
  bif (inR ((Int.ofNat (List.length a0)) - (Int.ofNat (List.length a1)))) then
   bif ((leI (0:Int) ((Int.ofNat (List.length a0)) - (Int.ofNat (List.length a1)))) && (true && (true && ((Nat.ble (Int.toNat ((Int.ofNat (List.length a0)) - (Int.ofNat (List.length a1)))) (List.length a0)) && ((Nat.ble (List.length a0) (List.length a0)) && (Nat.ble (List.length a0) (List.length a0))))))) then
    some ((decide ((List.take ((List.length a0) - (Int.toNat ((Int.ofNat (List.length a0)) - (Int.ofNat (List.length a1))))) (List.drop (Int.toNat ((Int.ofNat (List.length a0)) - (Int.ofNat (List.length a1)))) a0))=a1),()),())
   else none
  else none
 else some ((false,()),())
noncomputable def c_byHasSuffix:Go.RK.Fn Tryz.prog 41:=mkFn hm0 en0 (by kernel_rfl) [28,28] [4] (tC (qR .by (nu 0)) (tC (qR .by (nu 0)) tNil)) (tC (qB (nu 0)) tNil) tNil 0 0 (natX_ok c_byEqual (nat0_ok _)) [] (by kernel_rfl) (fun x=>f_byHasSuffix x.1 x.2.1) fun x=>by kernel_rfl
noncomputable def f_byIndexByte (a0:Bs) (a1:UInt8):Option ((Int × Unit) × Unit) :=
 bnd (f_ixB a0 a1) fun y0 =>
 some ((y0,()),())
noncomputable def c_byIndexByte:Go.RK.Fn Tryz.prog 159:=mkFn hm0 en0 (by kernel_rfl) [28,5] [3] (tC (qR .by (nu 0)) (tC (qY (nu 0)) tNil)) (tC (qI (nu 0)) tNil) tNil 0 0 (natX_ok c_ixB (nat0_ok _)) [] (by kernel_rfl) (fun x=>f_byIndexByte x.1 x.2.1) fun x=>by kernel_rfl
noncomputable def f_stIndexByte (a0:Bs) (a1:UInt8):Option ((Int × Unit) × Unit) :=
 bnd (f_ixS a0 a1) fun y0 =>
 some ((y0,()),())
noncomputable def c_stIndexByte:Go.RK.Fn Tryz.prog 160:=mkFn hm0 en0 (by kernel_rfl) [9,5] [3] (tC (qS (nu 0)) (tC (qY (nu 0)) tNil)) (tC (qI (nu 0)) tNil) tNil 0 0 (natX_ok c_ixS (nat0_ok _)) [] (by kernel_rfl) (fun x=>f_stIndexByte x.1 x.2.1) fun x=>by kernel_rfl
noncomputable def s_eqInt_0 (s1:List (Int)) (s2:List (Int)) (t12:Int) (t13:Int):Option ((List (Int) × (List (Int) × (Int × (Int × Unit)))) ⊕ (Unit ⊕ (Bool × Unit))) :=
 bif (ltI t13 t12) then
  bif (inB t13 (List.length s1)) then
   bif (inB t13 (List.length s2)) then
    bif (!decide (@Eq (Int) (getU (t:=Tm.int) s1 t13) (getU (t:=Tm.int) s2 t13))) then
     some (.inr (.inr (false,())))
    else bif (inR (t13+(1:Int))) then
     some (.inl (s1,(s2,(t12,((t13+(1:Int)),())))))
    else none
   else none
  else none
 else some (.inr (.inl ()))
noncomputable def l_eqInt_0:Lp Tryz.prog:=mkLp (P:=Tryz.prog) [0,1,12,13] [33,33,3,3] 0 [] (tC (tRow Tm.int) (tC (tRow Tm.int) (tC tI (tC tI tNil)))) [⟨.exit 0,[],[],0,tNil⟩,⟨.ret,[4],[4],0,(tC tBool tNil)⟩] (fun x=>s_eqInt_0 x.1 x.2.1 x.2.2.1 x.2.2.2.1)
noncomputable def u_eqInt_0 (s1:List (Int)) (s2:List (Int)) (t12:Int) (t13:Int):Nat:=Int.toNat (t12 - t13)+1
noncomputable def k_eqInt_0:Lk Tryz.prog 170 0:=mkLk hm0 en0 l_eqInt_0 0 (fun x=>u_eqInt_0 x.1 x.2.1 x.2.2.1 x.2.2.2.1) (nat0_ok _) [] (by kernel_rfl) fun x=>by kernel_rfl
noncomputable def f_eqInt (a0:List (Int)) (a1:List (Int)):Option ((Bool × Unit) × Unit) :=
 bif (!decide ((Int.ofNat (List.length a0))=(Int.ofNat (List.length a1)))) then
  some ((false,()),())
 else bnd (lpF l_eqInt_0.step (u_eqInt_0 a0 a1 (Int.ofNat (List.length a0)) (0:Int)) (a0,(a1,((Int.ofNat (List.length a0)),((0:Int),()))))) fun y0 =>
 match y0 with
 | .inl y1 =>
  some ((true,()),())
 | .inr y1 =>
  some ((y1.1,()),())
noncomputable def c_eqInt:Go.RK.Fn Tryz.prog 170:=mkFn hm0 en0 (by kernel_rfl) [33,33] [4] (tC (qR .int (nu 0)) (tC (qR .int (nu 0)) tNil)) (tC (qB (nu 0)) tNil) tNil 0 0 (nat0_ok _) [⟨_,k_eqInt_0⟩] (by kernel_rfl) (fun x=>f_eqInt x.1 x.2.1) fun x=>by kernel_rfl
noncomputable def s_eqCol_0 (s1:List (Col)) (s2:List (Col)) (t12:Int) (t13:Int):Option ((List (Col) × (List (Col) × (Int × (Int × Unit)))) ⊕ (Unit ⊕ (Bool × Unit))) :=
 bif (ltI t13 t12) then
  bif (inB t13 (List.length s1)) then
   bif (inB t13 (List.length s2)) then
    bif (!(decide ((getU (t:=Tm.col) s1 t13).name=(getU (t:=Tm.col) s2 t13).name) && (decide ((getU (t:=Tm.col) s1 t13).table=(getU (t:=Tm.col) s2 t13).table) && (decide ((getU (t:=Tm.col) s1 t13).attr=(getU (t:=Tm.col) s2 t13).attr) && (decide ((getU (t:=Tm.col) s1 t13).oid=(getU (t:=Tm.col) s2 t13).oid) && (decide ((getU (t:=Tm.col) s1 t13).size=(getU (t:=Tm.col) s2 t13).size) && (decide ((getU (t:=Tm.col) s1 t13).mod=(getU (t:=Tm.col) s2 t13).mod) && (decide ((getU (t:=Tm.col) s1 t13).format=(getU (t:=Tm.col) s2 t13).format) && true)))))))) then
     some (.inr (.inr (false,())))
    else bif (inR (t13+(1:Int))) then
     some (.inl (s1,(s2,(t12,((t13+(1:Int)),())))))
    else none
   else none
  else none
 else some (.inr (.inl ()))
noncomputable def l_eqCol_0:Lp Tryz.prog:=mkLp (P:=Tryz.prog) [0,1,12,13] [74,74,3,3] 0 [] (tC (tRow Tm.col) (tC (tRow Tm.col) (tC tI (tC tI tNil)))) [⟨.exit 0,[],[],0,tNil⟩,⟨.ret,[4],[4],0,(tC tBool tNil)⟩] (fun x=>s_eqCol_0 x.1 x.2.1 x.2.2.1 x.2.2.2.1)
noncomputable def u_eqCol_0 (s1:List (Col)) (s2:List (Col)) (t12:Int) (t13:Int):Nat:=Int.toNat (t12 - t13)+1
noncomputable def k_eqCol_0:Lk Tryz.prog 171 0:=mkLk hm0 en0 l_eqCol_0 0 (fun x=>u_eqCol_0 x.1 x.2.1 x.2.2.1 x.2.2.2.1) (nat0_ok _) [] (by kernel_rfl) fun x=>by kernel_rfl
noncomputable def f_eqCol (a0:List (Col)) (a1:List (Col)):Option ((Bool × Unit) × Unit) :=
 bif (!decide ((Int.ofNat (List.length a0))=(Int.ofNat (List.length a1)))) then
  some ((false,()),())
 else bnd (lpF l_eqCol_0.step (u_eqCol_0 a0 a1 (Int.ofNat (List.length a0)) (0:Int)) (a0,(a1,((Int.ofNat (List.length a0)),((0:Int),()))))) fun y0 =>
 match y0 with
 | .inl y1 =>
  some ((true,()),())
 | .inr y1 =>
  some ((y1.1,()),())
noncomputable def c_eqCol:Go.RK.Fn Tryz.prog 171:=mkFn hm0 en0 (by kernel_rfl) [74,74] [4] (tC (qR .col (nu 0)) (tC (qR .col (nu 0)) tNil)) (tC (qB (nu 0)) tNil) tNil 0 0 (nat0_ok _) [⟨_,k_eqCol_0⟩] (by kernel_rfl) (fun x=>f_eqCol x.1 x.2.1) fun x=>by kernel_rfl
noncomputable def s_eqField_0 (s1:List (Field)) (s2:List (Field)) (t12:Int) (t13:Int):Option ((List (Field) × (List (Field) × (Int × (Int × Unit)))) ⊕ (Unit ⊕ (Bool × Unit))) :=
 bif (ltI t13 t12) then
  bif (inB t13 (List.length s1)) then
   bif (inB t13 (List.length s2)) then
    bif (!(decide ((Int.ofNat (UInt8.toNat (getU (t:=Tm.field) s1 t13).code))=(Int.ofNat (UInt8.toNat (getU (t:=Tm.field) s2 t13).code))) && (decide ((getU (t:=Tm.field) s1 t13).text=(getU (t:=Tm.field) s2 t13).text) && true))) then
     some (.inr (.inr (false,())))
    else bif (inR (t13+(1:Int))) then
     some (.inl (s1,(s2,(t12,((t13+(1:Int)),())))))
    else none
   else none
  else none
 else some (.inr (.inl ()))
noncomputable def l_eqField_0:Lp Tryz.prog:=mkLp (P:=Tryz.prog) [0,1,12,13] [76,76,3,3] 0 [] (tC (tRow Tm.field) (tC (tRow Tm.field) (tC tI (tC tI tNil)))) [⟨.exit 0,[],[],0,tNil⟩,⟨.ret,[4],[4],0,(tC tBool tNil)⟩] (fun x=>s_eqField_0 x.1 x.2.1 x.2.2.1 x.2.2.2.1)
noncomputable def u_eqField_0 (s1:List (Field)) (s2:List (Field)) (t12:Int) (t13:Int):Nat:=Int.toNat (t12 - t13)+1
noncomputable def k_eqField_0:Lk Tryz.prog 172 0:=mkLk hm0 en0 l_eqField_0 0 (fun x=>u_eqField_0 x.1 x.2.1 x.2.2.1 x.2.2.2.1) (nat0_ok _) [] (by kernel_rfl) fun x=>by kernel_rfl
noncomputable def f_eqField (a0:List (Field)) (a1:List (Field)):Option ((Bool × Unit) × Unit) :=
 bif (!decide ((Int.ofNat (List.length a0))=(Int.ofNat (List.length a1)))) then
  some ((false,()),())
 else bnd (lpF l_eqField_0.step (u_eqField_0 a0 a1 (Int.ofNat (List.length a0)) (0:Int)) (a0,(a1,((Int.ofNat (List.length a0)),((0:Int),()))))) fun y0 =>
 match y0 with
 | .inl y1 =>
  some ((true,()),())
 | .inr y1 =>
  some ((y1.1,()),())
noncomputable def c_eqField:Go.RK.Fn Tryz.prog 172:=mkFn hm0 en0 (by kernel_rfl) [76,76] [4] (tC (qR .field (nu 0)) (tC (qR .field (nu 0)) tNil)) (tC (qB (nu 0)) tNil) tNil 0 0 (nat0_ok _) [⟨_,k_eqField_0⟩] (by kernel_rfl) (fun x=>f_eqField x.1 x.2.1) fun x=>by kernel_rfl
noncomputable def f_clean (a0:Bs):Option ((Bool × Unit) × Unit) :=
 bnd (f_stIndexByte a0 (UInt8.ofNat 0)) fun y0 =>
 some (((ltI y0.1.1 (0:Int)),()),())
noncomputable def c_clean:Go.RK.Fn Tryz.prog 116:=mkFn hm0 en0 (by kernel_rfl) [9] [4] (tC (qS (nu 0)) tNil) (tC (qB (nu 0)) tNil) tNil 0 0 (natX_ok c_stIndexByte (nat0_ok _)) [] (by kernel_rfl) (fun x=>f_clean x.1) fun x=>by kernel_rfl
noncomputable def f_known (a0:UInt8):Option ((Bool × Unit) × Unit) :=
 bnd (f_byIndexByte [(UInt8.ofNat (Int.toNat (82:Int))),(UInt8.ofNat (Int.toNat (83:Int))),(UInt8.ofNat (Int.toNat (75:Int))),(UInt8.ofNat (Int.toNat (90:Int))),(UInt8.ofNat (Int.toNat (49:Int))),(UInt8.ofNat (Int.toNat (50:Int))),(UInt8.ofNat (Int.toNat (51:Int))),(UInt8.ofNat (Int.toNat (110:Int))),(UInt8.ofNat (Int.toNat (115:Int))),(UInt8.ofNat (Int.toNat (73:Int))),(UInt8.ofNat (Int.toNat (67:Int))),(UInt8.ofNat (Int.toNat (68:Int))),(UInt8.ofNat (Int.toNat (84:Int))),(UInt8.ofNat (Int.toNat (116:Int))),(UInt8.ofNat (Int.toNat (69:Int))),(UInt8.ofNat (Int.toNat (78:Int)))] a0) fun y0 =>
 some (((leI (0:Int) y0.1.1),()),())
noncomputable def c_known:Go.RK.Fn Tryz.prog 115:=mkFn hm0 en0 (by kernel_rfl) [5] [4] (tC (qY (nu 0)) tNil) (tC (qB (nu 0)) tNil) tNil 0 0 (natX_ok c_byIndexByte (nat0_ok _)) [] (by kernel_rfl) (fun x=>f_known x.1) fun x=>by kernel_rfl
noncomputable def f_bkCol (a0:Col):Option ((Bool × Unit) × Unit) :=
 bnd (f_clean a0.name) fun y0 =>
 bif y0.1.1 then
  bif (ltI (getU (t:=Tm.bound) [(Bound.mk a0.table (0:Int) (4294967295:Int)),(Bound.mk a0.attr (0:Int) (65535:Int)),(Bound.mk a0.oid (0:Int) (4294967295:Int)),(Bound.mk a0.size (-(32768:Int)) (32767:Int)),(Bound.mk a0.mod (-(2147483648:Int)) (2147483647:Int)),(Bound.mk a0.format (0:Int) (65535:Int))] (Int.ofNat (Int.toNat (0:Int)))).n (getU (t:=Tm.bound) [(Bound.mk a0.table (0:Int) (4294967295:Int)),(Bound.mk a0.attr (0:Int) (65535:Int)),(Bound.mk a0.oid (0:Int) (4294967295:Int)),(Bound.mk a0.size (-(32768:Int)) (32767:Int)),(Bound.mk a0.mod (-(2147483648:Int)) (2147483647:Int)),(Bound.mk a0.format (0:Int) (65535:Int))] (Int.ofNat (Int.toNat (0:Int)))).lo) then
   some (((!(leI (0:Int) (0:Int))),()),())
  else bif (ltI (getU (t:=Tm.bound) [(Bound.mk a0.table (0:Int) (4294967295:Int)),(Bound.mk a0.attr (0:Int) (65535:Int)),(Bound.mk a0.oid (0:Int) (4294967295:Int)),(Bound.mk a0.size (-(32768:Int)) (32767:Int)),(Bound.mk a0.mod (-(2147483648:Int)) (2147483647:Int)),(Bound.mk a0.format (0:Int) (65535:Int))] (Int.ofNat (Int.toNat (0:Int)))).hi (getU (t:=Tm.bound) [(Bound.mk a0.table (0:Int) (4294967295:Int)),(Bound.mk a0.attr (0:Int) (65535:Int)),(Bound.mk a0.oid (0:Int) (4294967295:Int)),(Bound.mk a0.size (-(32768:Int)) (32767:Int)),(Bound.mk a0.mod (-(2147483648:Int)) (2147483647:Int)),(Bound.mk a0.format (0:Int) (65535:Int))] (Int.ofNat (Int.toNat (0:Int)))).n) then
   some (((!(leI (0:Int) (0:Int))),()),())
  else bif (ltI (getU (t:=Tm.bound) [(Bound.mk a0.table (0:Int) (4294967295:Int)),(Bound.mk a0.attr (0:Int) (65535:Int)),(Bound.mk a0.oid (0:Int) (4294967295:Int)),(Bound.mk a0.size (-(32768:Int)) (32767:Int)),(Bound.mk a0.mod (-(2147483648:Int)) (2147483647:Int)),(Bound.mk a0.format (0:Int) (65535:Int))] (Int.ofNat (Int.toNat ((0:Int)+(1:Int))))).n (getU (t:=Tm.bound) [(Bound.mk a0.table (0:Int) (4294967295:Int)),(Bound.mk a0.attr (0:Int) (65535:Int)),(Bound.mk a0.oid (0:Int) (4294967295:Int)),(Bound.mk a0.size (-(32768:Int)) (32767:Int)),(Bound.mk a0.mod (-(2147483648:Int)) (2147483647:Int)),(Bound.mk a0.format (0:Int) (65535:Int))] (Int.ofNat (Int.toNat ((0:Int)+(1:Int))))).lo) then
   some (((!(leI (0:Int) ((0:Int)+(1:Int)))),()),())
  else bif (ltI (getU (t:=Tm.bound) [(Bound.mk a0.table (0:Int) (4294967295:Int)),(Bound.mk a0.attr (0:Int) (65535:Int)),(Bound.mk a0.oid (0:Int) (4294967295:Int)),(Bound.mk a0.size (-(32768:Int)) (32767:Int)),(Bound.mk a0.mod (-(2147483648:Int)) (2147483647:Int)),(Bound.mk a0.format (0:Int) (65535:Int))] (Int.ofNat (Int.toNat ((0:Int)+(1:Int))))).hi (getU (t:=Tm.bound) [(Bound.mk a0.table (0:Int) (4294967295:Int)),(Bound.mk a0.attr (0:Int) (65535:Int)),(Bound.mk a0.oid (0:Int) (4294967295:Int)),(Bound.mk a0.size (-(32768:Int)) (32767:Int)),(Bound.mk a0.mod (-(2147483648:Int)) (2147483647:Int)),(Bound.mk a0.format (0:Int) (65535:Int))] (Int.ofNat (Int.toNat ((0:Int)+(1:Int))))).n) then
   some (((!(leI (0:Int) ((0:Int)+(1:Int)))),()),())
  else bif (ltI (getU (t:=Tm.bound) [(Bound.mk a0.table (0:Int) (4294967295:Int)),(Bound.mk a0.attr (0:Int) (65535:Int)),(Bound.mk a0.oid (0:Int) (4294967295:Int)),(Bound.mk a0.size (-(32768:Int)) (32767:Int)),(Bound.mk a0.mod (-(2147483648:Int)) (2147483647:Int)),(Bound.mk a0.format (0:Int) (65535:Int))] (Int.ofNat (Int.toNat (((0:Int)+(1:Int))+(1:Int))))).n (getU (t:=Tm.bound) [(Bound.mk a0.table (0:Int) (4294967295:Int)),(Bound.mk a0.attr (0:Int) (65535:Int)),(Bound.mk a0.oid (0:Int) (4294967295:Int)),(Bound.mk a0.size (-(32768:Int)) (32767:Int)),(Bound.mk a0.mod (-(2147483648:Int)) (2147483647:Int)),(Bound.mk a0.format (0:Int) (65535:Int))] (Int.ofNat (Int.toNat (((0:Int)+(1:Int))+(1:Int))))).lo) then
   some (((!(leI (0:Int) (((0:Int)+(1:Int))+(1:Int)))),()),())
  else bif (ltI (getU (t:=Tm.bound) [(Bound.mk a0.table (0:Int) (4294967295:Int)),(Bound.mk a0.attr (0:Int) (65535:Int)),(Bound.mk a0.oid (0:Int) (4294967295:Int)),(Bound.mk a0.size (-(32768:Int)) (32767:Int)),(Bound.mk a0.mod (-(2147483648:Int)) (2147483647:Int)),(Bound.mk a0.format (0:Int) (65535:Int))] (Int.ofNat (Int.toNat (((0:Int)+(1:Int))+(1:Int))))).hi (getU (t:=Tm.bound) [(Bound.mk a0.table (0:Int) (4294967295:Int)),(Bound.mk a0.attr (0:Int) (65535:Int)),(Bound.mk a0.oid (0:Int) (4294967295:Int)),(Bound.mk a0.size (-(32768:Int)) (32767:Int)),(Bound.mk a0.mod (-(2147483648:Int)) (2147483647:Int)),(Bound.mk a0.format (0:Int) (65535:Int))] (Int.ofNat (Int.toNat (((0:Int)+(1:Int))+(1:Int))))).n) then
   some (((!(leI (0:Int) (((0:Int)+(1:Int))+(1:Int)))),()),())
  else bif (ltI (getU (t:=Tm.bound) [(Bound.mk a0.table (0:Int) (4294967295:Int)),(Bound.mk a0.attr (0:Int) (65535:Int)),(Bound.mk a0.oid (0:Int) (4294967295:Int)),(Bound.mk a0.size (-(32768:Int)) (32767:Int)),(Bound.mk a0.mod (-(2147483648:Int)) (2147483647:Int)),(Bound.mk a0.format (0:Int) (65535:Int))] (Int.ofNat (Int.toNat ((((0:Int)+(1:Int))+(1:Int))+(1:Int))))).n (getU (t:=Tm.bound) [(Bound.mk a0.table (0:Int) (4294967295:Int)),(Bound.mk a0.attr (0:Int) (65535:Int)),(Bound.mk a0.oid (0:Int) (4294967295:Int)),(Bound.mk a0.size (-(32768:Int)) (32767:Int)),(Bound.mk a0.mod (-(2147483648:Int)) (2147483647:Int)),(Bound.mk a0.format (0:Int) (65535:Int))] (Int.ofNat (Int.toNat ((((0:Int)+(1:Int))+(1:Int))+(1:Int))))).lo) then
   some (((!(leI (0:Int) ((((0:Int)+(1:Int))+(1:Int))+(1:Int)))),()),())
  else bif (ltI (getU (t:=Tm.bound) [(Bound.mk a0.table (0:Int) (4294967295:Int)),(Bound.mk a0.attr (0:Int) (65535:Int)),(Bound.mk a0.oid (0:Int) (4294967295:Int)),(Bound.mk a0.size (-(32768:Int)) (32767:Int)),(Bound.mk a0.mod (-(2147483648:Int)) (2147483647:Int)),(Bound.mk a0.format (0:Int) (65535:Int))] (Int.ofNat (Int.toNat ((((0:Int)+(1:Int))+(1:Int))+(1:Int))))).hi (getU (t:=Tm.bound) [(Bound.mk a0.table (0:Int) (4294967295:Int)),(Bound.mk a0.attr (0:Int) (65535:Int)),(Bound.mk a0.oid (0:Int) (4294967295:Int)),(Bound.mk a0.size (-(32768:Int)) (32767:Int)),(Bound.mk a0.mod (-(2147483648:Int)) (2147483647:Int)),(Bound.mk a0.format (0:Int) (65535:Int))] (Int.ofNat (Int.toNat ((((0:Int)+(1:Int))+(1:Int))+(1:Int))))).n) then
   some (((!(leI (0:Int) ((((0:Int)+(1:Int))+(1:Int))+(1:Int)))),()),())
  else bif (ltI (getU (t:=Tm.bound) [(Bound.mk a0.table (0:Int) (4294967295:Int)),(Bound.mk a0.attr (0:Int) (65535:Int)),(Bound.mk a0.oid (0:Int) (4294967295:Int)),(Bound.mk a0.size (-(32768:Int)) (32767:Int)),(Bound.mk a0.mod (-(2147483648:Int)) (2147483647:Int)),(Bound.mk a0.format (0:Int) (65535:Int))] (Int.ofNat (Int.toNat (((((0:Int)+(1:Int))+(1:Int))+(1:Int))+(1:Int))))).n (getU (t:=Tm.bound) [(Bound.mk a0.table (0:Int) (4294967295:Int)),(Bound.mk a0.attr (0:Int) (65535:Int)),(Bound.mk a0.oid (0:Int) (4294967295:Int)),(Bound.mk a0.size (-(32768:Int)) (32767:Int)),(Bound.mk a0.mod (-(2147483648:Int)) (2147483647:Int)),(Bound.mk a0.format (0:Int) (65535:Int))] (Int.ofNat (Int.toNat (((((0:Int)+(1:Int))+(1:Int))+(1:Int))+(1:Int))))).lo) then
   some (((!(leI (0:Int) (((((0:Int)+(1:Int))+(1:Int))+(1:Int))+(1:Int)))),()),())
  else bif (ltI (getU (t:=Tm.bound) [(Bound.mk a0.table (0:Int) (4294967295:Int)),(Bound.mk a0.attr (0:Int) (65535:Int)),(Bound.mk a0.oid (0:Int) (4294967295:Int)),(Bound.mk a0.size (-(32768:Int)) (32767:Int)),(Bound.mk a0.mod (-(2147483648:Int)) (2147483647:Int)),(Bound.mk a0.format (0:Int) (65535:Int))] (Int.ofNat (Int.toNat (((((0:Int)+(1:Int))+(1:Int))+(1:Int))+(1:Int))))).hi (getU (t:=Tm.bound) [(Bound.mk a0.table (0:Int) (4294967295:Int)),(Bound.mk a0.attr (0:Int) (65535:Int)),(Bound.mk a0.oid (0:Int) (4294967295:Int)),(Bound.mk a0.size (-(32768:Int)) (32767:Int)),(Bound.mk a0.mod (-(2147483648:Int)) (2147483647:Int)),(Bound.mk a0.format (0:Int) (65535:Int))] (Int.ofNat (Int.toNat (((((0:Int)+(1:Int))+(1:Int))+(1:Int))+(1:Int))))).n) then
   some (((!(leI (0:Int) (((((0:Int)+(1:Int))+(1:Int))+(1:Int))+(1:Int)))),()),())
  else bif (ltI (getU (t:=Tm.bound) [(Bound.mk a0.table (0:Int) (4294967295:Int)),(Bound.mk a0.attr (0:Int) (65535:Int)),(Bound.mk a0.oid (0:Int) (4294967295:Int)),(Bound.mk a0.size (-(32768:Int)) (32767:Int)),(Bound.mk a0.mod (-(2147483648:Int)) (2147483647:Int)),(Bound.mk a0.format (0:Int) (65535:Int))] (Int.ofNat (Int.toNat ((((((0:Int)+(1:Int))+(1:Int))+(1:Int))+(1:Int))+(1:Int))))).n (getU (t:=Tm.bound) [(Bound.mk a0.table (0:Int) (4294967295:Int)),(Bound.mk a0.attr (0:Int) (65535:Int)),(Bound.mk a0.oid (0:Int) (4294967295:Int)),(Bound.mk a0.size (-(32768:Int)) (32767:Int)),(Bound.mk a0.mod (-(2147483648:Int)) (2147483647:Int)),(Bound.mk a0.format (0:Int) (65535:Int))] (Int.ofNat (Int.toNat ((((((0:Int)+(1:Int))+(1:Int))+(1:Int))+(1:Int))+(1:Int))))).lo) then
   some (((!(leI (0:Int) ((((((0:Int)+(1:Int))+(1:Int))+(1:Int))+(1:Int))+(1:Int)))),()),())
  else bif (ltI (getU (t:=Tm.bound) [(Bound.mk a0.table (0:Int) (4294967295:Int)),(Bound.mk a0.attr (0:Int) (65535:Int)),(Bound.mk a0.oid (0:Int) (4294967295:Int)),(Bound.mk a0.size (-(32768:Int)) (32767:Int)),(Bound.mk a0.mod (-(2147483648:Int)) (2147483647:Int)),(Bound.mk a0.format (0:Int) (65535:Int))] (Int.ofNat (Int.toNat ((((((0:Int)+(1:Int))+(1:Int))+(1:Int))+(1:Int))+(1:Int))))).hi (getU (t:=Tm.bound) [(Bound.mk a0.table (0:Int) (4294967295:Int)),(Bound.mk a0.attr (0:Int) (65535:Int)),(Bound.mk a0.oid (0:Int) (4294967295:Int)),(Bound.mk a0.size (-(32768:Int)) (32767:Int)),(Bound.mk a0.mod (-(2147483648:Int)) (2147483647:Int)),(Bound.mk a0.format (0:Int) (65535:Int))] (Int.ofNat (Int.toNat ((((((0:Int)+(1:Int))+(1:Int))+(1:Int))+(1:Int))+(1:Int))))).n) then
   some (((!(leI (0:Int) ((((((0:Int)+(1:Int))+(1:Int))+(1:Int))+(1:Int))+(1:Int)))),()),())
  else some (((!(leI (0:Int) (-(1:Int)))),()),())
 else some ((false,()),())
noncomputable def c_bkCol:Go.RK.Fn Tryz.prog 118:=mkFn hm0 en0 (by kernel_rfl) [137] [4] (tC (qCo (nu 0)) tNil) (tC (qB (nu 0)) tNil) tNil 0 0 (natX_ok c_clean (nat0_ok _)) [] (by kernel_rfl) (fun x=>f_bkCol x.1) fun x=>by kernel_rfl
noncomputable def f_bkField (a0:Field):Option ((Bool × Unit) × Unit) :=
 bif (!decide ((Int.ofNat (UInt8.toNat a0.code))=(0:Int))) then
  bnd (f_clean a0.text) fun y0 =>
  some ((y0.1.1,()),())
 else some ((false,()),())
noncomputable def c_bkField:Go.RK.Fn Tryz.prog 120:=mkFn hm0 en0 (by kernel_rfl) [139] [4] (tC (qFi (nu 0)) tNil) (tC (qB (nu 0)) tNil) tNil 0 0 (natX_ok c_clean (nat0_ok _)) [] (by kernel_rfl) (fun x=>f_bkField x.1) fun x=>by kernel_rfl
noncomputable def f_bkCell (a0:Cell):Option ((Bool × Unit) × Unit) :=
 bif a0.null then
  bif (!(ltI (0:Int) (Int.ofNat (List.length a0.bytes)))) then
   some (((leI (Int.ofNat (List.length a0.bytes)) (1048576:Int)),()),())
  else some ((false,()),())
 else some (((leI (Int.ofNat (List.length a0.bytes)) (1048576:Int)),()),())
noncomputable def c_bkCell:Go.RK.Fn Tryz.prog 122:=mkFn hm0 en0 (by kernel_rfl) [135] [4] (tC (qCe (nu 0)) tNil) (tC (qB (nu 0)) tNil) tNil 0 0 (nat0_ok _) [] (by kernel_rfl) (fun x=>f_bkCell x.1) fun x=>by kernel_rfl
noncomputable def f_bkOid (a0:Int):Option ((Bool × Unit) × Unit) :=
 bif (leI (0:Int) a0) then
  some (((leI a0 (4294967295:Int)),()),())
 else some ((false,()),())
noncomputable def c_bkOid:Go.RK.Fn Tryz.prog 124:=mkFn hm0 en0 (by kernel_rfl) [3] [4] (tC (qI (nu 0)) tNil) (tC (qB (nu 0)) tNil) tNil 0 0 (nat0_ok _) [] (by kernel_rfl) (fun x=>f_bkOid x.1) fun x=>by kernel_rfl
noncomputable def f_bkStatus (a0:Back):Option ((Bool × Unit) × Unit) :=
 bif (!decide ((Int.ofNat (UInt8.toNat a0.kind))=(90:Int))) then
  some ((true,()),())
 else bif decide ((Int.ofNat (UInt8.toNat a0.status))=(73:Int)) then
  some ((true,()),())
 else bif decide ((Int.ofNat (UInt8.toNat a0.status))=(84:Int)) then
  some ((true,()),())
 else some ((decide ((Int.ofNat (UInt8.toNat a0.status))=(69:Int)),()),())
noncomputable def c_bkStatus:Go.RK.Fn Tryz.prog 125:=mkFn hm0 en0 (by kernel_rfl) [78] [4] (tC (qBk (nu 0)) tNil) (tC (qB (nu 0)) tNil) tNil 0 0 (nat0_ok _) [] (by kernel_rfl) (fun x=>f_bkStatus x.1) fun x=>by kernel_rfl
noncomputable def s_ifCol_0 (s:List (Col)) (f:(Unit × (((Unit × Unit) × Unit) × Unit))) (t7:Int) (t8:Int):Option ((List (Col) × ((Unit × (((Unit × Unit) × Unit) × Unit)) × (Int × (Int × Unit)))) ⊕ (((Unit × (((Unit × Unit) × Unit) × Unit)) × Unit) ⊕ (Int × ((Unit × (((Unit × Unit) × Unit) × Unit)) × Unit)))) :=
 bif (ltI t8 t7) then
  bif (inB t8 (List.length s)) then
   bnd (f_bkCol (getU (t:=Tm.col) s t8)) fun y2 =>
   bif (!y2.1.1) then
    some (.inr (.inr (t8,(((),((((),()),()),())),()))))
   else bif (inR (t8+(1:Int))) then
    some (.inl (s,(((),((((),()),()),())),(t7,((t8+(1:Int)),())))))
   else none
  else none
 else some (.inr (.inl (((),((((),()),()),())),())))
noncomputable def l_ifCol_0:Lp Tryz.prog:=mkLp (P:=Tryz.prog) [0,1,7,8] [74,190,3,3] 1 [0] (tC (tRow Tm.col) (tC (tFn 162 tNil (tC (tPtr 0 190 (tC (tFn 118 tNil tNil) tNil)) tNil)) (tC tI (tC tI tNil)))) [⟨.exit 0,[1],[190],1,(tC (tFn 162 tNil (tC (tPtr 0 190 (tC (tFn 118 tNil tNil) tNil)) tNil)) tNil)⟩,⟨.ret,[4,1],[3,190],1,(tC tI (tC (tFn 162 tNil (tC (tPtr 0 190 (tC (tFn 118 tNil tNil) tNil)) tNil)) tNil))⟩] (fun x=>s_ifCol_0 x.1 x.2.1 x.2.2.1 x.2.2.2.1)
noncomputable def u_ifCol_0 (s:List (Col)) (f:(Unit × (((Unit × Unit) × Unit) × Unit))) (t7:Int) (t8:Int):Nat:=Int.toNat (t7 - t8)+1
noncomputable def k_ifCol_0:Lk Tryz.prog 214 0:=mkLk hm0 en0 l_ifCol_0 0 (fun x=>u_ifCol_0 x.1 x.2.1 x.2.2.1 x.2.2.2.1) (natX_ok c_bkCol (nat0_ok _)) [] (by kernel_rfl) fun x=>by kernel_rfl
noncomputable def f_ifCol (a0:List (Col)) (a1:(Unit × (((Unit × Unit) × Unit) × Unit))):Option ((Int × Unit) × Unit) :=
 bnd (lpF l_ifCol_0.step (u_ifCol_0 a0 ((),((((),()),()),())) (Int.ofNat (List.length a0)) (0:Int)) (a0,(((),((((),()),()),())),((Int.ofNat (List.length a0)),((0:Int),()))))) fun y0 =>
 match y0 with
 | .inl y1 =>
  some (((-(1:Int)),()),())
 | .inr y1 =>
  some ((y1.1,()),())
noncomputable def c_ifCol:Go.RK.Fn Tryz.prog 214:=mkFn hm0 en0 (by kernel_rfl) [74,190] [3] (tC (qR .col (nu 0)) (tC ((fun n=>tFn 162 tNil (tC (tPtr (n 0) 190 (tC (tFn 118 tNil tNil) tNil)) tNil)) (nu 0)) tNil)) (tC (qI (nu 1)) tNil) tNil 1 1 (natX_ok c_bkCol (nat0_ok _)) [⟨_,k_ifCol_0⟩] (by kernel_rfl) (fun x=>f_ifCol x.1 x.2.1) fun x=>by kernel_rfl
noncomputable def s_ifField_0 (s:List (Field)) (f:(Unit × (((Unit × Unit) × Unit) × Unit))) (t7:Int) (t8:Int):Option ((List (Field) × ((Unit × (((Unit × Unit) × Unit) × Unit)) × (Int × (Int × Unit)))) ⊕ (((Unit × (((Unit × Unit) × Unit) × Unit)) × Unit) ⊕ (Int × ((Unit × (((Unit × Unit) × Unit) × Unit)) × Unit)))) :=
 bif (ltI t8 t7) then
  bif (inB t8 (List.length s)) then
   bnd (f_bkField (getU (t:=Tm.field) s t8)) fun y2 =>
   bif (!y2.1.1) then
    some (.inr (.inr (t8,(((),((((),()),()),())),()))))
   else bif (inR (t8+(1:Int))) then
    some (.inl (s,(((),((((),()),()),())),(t7,((t8+(1:Int)),())))))
   else none
  else none
 else some (.inr (.inl (((),((((),()),()),())),())))
noncomputable def l_ifField_0:Lp Tryz.prog:=mkLp (P:=Tryz.prog) [0,1,7,8] [76,192,3,3] 1 [0] (tC (tRow Tm.field) (tC (tFn 165 tNil (tC (tPtr 0 192 (tC (tFn 120 tNil tNil) tNil)) tNil)) (tC tI (tC tI tNil)))) [⟨.exit 0,[1],[192],1,(tC (tFn 165 tNil (tC (tPtr 0 192 (tC (tFn 120 tNil tNil) tNil)) tNil)) tNil)⟩,⟨.ret,[4,1],[3,192],1,(tC tI (tC (tFn 165 tNil (tC (tPtr 0 192 (tC (tFn 120 tNil tNil) tNil)) tNil)) tNil))⟩] (fun x=>s_ifField_0 x.1 x.2.1 x.2.2.1 x.2.2.2.1)
noncomputable def u_ifField_0 (s:List (Field)) (f:(Unit × (((Unit × Unit) × Unit) × Unit))) (t7:Int) (t8:Int):Nat:=Int.toNat (t7 - t8)+1
noncomputable def k_ifField_0:Lk Tryz.prog 217 0:=mkLk hm0 en0 l_ifField_0 0 (fun x=>u_ifField_0 x.1 x.2.1 x.2.2.1 x.2.2.2.1) (natX_ok c_bkField (nat0_ok _)) [] (by kernel_rfl) fun x=>by kernel_rfl
noncomputable def f_ifField (a0:List (Field)) (a1:(Unit × (((Unit × Unit) × Unit) × Unit))):Option ((Int × Unit) × Unit) :=
 bnd (lpF l_ifField_0.step (u_ifField_0 a0 ((),((((),()),()),())) (Int.ofNat (List.length a0)) (0:Int)) (a0,(((),((((),()),()),())),((Int.ofNat (List.length a0)),((0:Int),()))))) fun y0 =>
 match y0 with
 | .inl y1 =>
  some (((-(1:Int)),()),())
 | .inr y1 =>
  some ((y1.1,()),())
noncomputable def c_ifField:Go.RK.Fn Tryz.prog 217:=mkFn hm0 en0 (by kernel_rfl) [76,192] [3] (tC (qR .field (nu 0)) (tC ((fun n=>tFn 165 tNil (tC (tPtr (n 0) 192 (tC (tFn 120 tNil tNil) tNil)) tNil)) (nu 0)) tNil)) (tC (qI (nu 1)) tNil) tNil 1 1 (natX_ok c_bkField (nat0_ok _)) [⟨_,k_ifField_0⟩] (by kernel_rfl) (fun x=>f_ifField x.1 x.2.1) fun x=>by kernel_rfl
noncomputable def s_ifCell_0 (s:List (Cell)) (f:(Unit × (((Unit × Unit) × Unit) × Unit))) (t7:Int) (t8:Int):Option ((List (Cell) × ((Unit × (((Unit × Unit) × Unit) × Unit)) × (Int × (Int × Unit)))) ⊕ (((Unit × (((Unit × Unit) × Unit) × Unit)) × Unit) ⊕ (Int × ((Unit × (((Unit × Unit) × Unit) × Unit)) × Unit)))) :=
 bif (ltI t8 t7) then
  bif (inB t8 (List.length s)) then
   bnd (f_bkCell (getU (t:=Tm.cell) s t8)) fun y2 =>
   bif (!y2.1.1) then
    some (.inr (.inr (t8,(((),((((),()),()),())),()))))
   else bif (inR (t8+(1:Int))) then
    some (.inl (s,(((),((((),()),()),())),(t7,((t8+(1:Int)),())))))
   else none
  else none
 else some (.inr (.inl (((),((((),()),()),())),())))
noncomputable def l_ifCell_0:Lp Tryz.prog:=mkLp (P:=Tryz.prog) [0,1,7,8] [75,194,3,3] 1 [0] (tC (tRow Tm.cell) (tC (tFn 167 tNil (tC (tPtr 0 194 (tC (tFn 122 tNil tNil) tNil)) tNil)) (tC tI (tC tI tNil)))) [⟨.exit 0,[1],[194],1,(tC (tFn 167 tNil (tC (tPtr 0 194 (tC (tFn 122 tNil tNil) tNil)) tNil)) tNil)⟩,⟨.ret,[4,1],[3,194],1,(tC tI (tC (tFn 167 tNil (tC (tPtr 0 194 (tC (tFn 122 tNil tNil) tNil)) tNil)) tNil))⟩] (fun x=>s_ifCell_0 x.1 x.2.1 x.2.2.1 x.2.2.2.1)
noncomputable def u_ifCell_0 (s:List (Cell)) (f:(Unit × (((Unit × Unit) × Unit) × Unit))) (t7:Int) (t8:Int):Nat:=Int.toNat (t7 - t8)+1
noncomputable def k_ifCell_0:Lk Tryz.prog 218 0:=mkLk hm0 en0 l_ifCell_0 0 (fun x=>u_ifCell_0 x.1 x.2.1 x.2.2.1 x.2.2.2.1) (natX_ok c_bkCell (nat0_ok _)) [] (by kernel_rfl) fun x=>by kernel_rfl
noncomputable def f_ifCell (a0:List (Cell)) (a1:(Unit × (((Unit × Unit) × Unit) × Unit))):Option ((Int × Unit) × Unit) :=
 bnd (lpF l_ifCell_0.step (u_ifCell_0 a0 ((),((((),()),()),())) (Int.ofNat (List.length a0)) (0:Int)) (a0,(((),((((),()),()),())),((Int.ofNat (List.length a0)),((0:Int),()))))) fun y0 =>
 match y0 with
 | .inl y1 =>
  some (((-(1:Int)),()),())
 | .inr y1 =>
  some ((y1.1,()),())
noncomputable def c_ifCell:Go.RK.Fn Tryz.prog 218:=mkFn hm0 en0 (by kernel_rfl) [75,194] [3] (tC (qR .cell (nu 0)) (tC ((fun n=>tFn 167 tNil (tC (tPtr (n 0) 194 (tC (tFn 122 tNil tNil) tNil)) tNil)) (nu 0)) tNil)) (tC (qI (nu 1)) tNil) tNil 1 1 (natX_ok c_bkCell (nat0_ok _)) [⟨_,k_ifCell_0⟩] (by kernel_rfl) (fun x=>f_ifCell x.1 x.2.1) fun x=>by kernel_rfl
noncomputable def s_ifInt_0 (s:List (Int)) (f:(Unit × (((Unit × Unit) × Unit) × Unit))) (t7:Int) (t8:Int):Option ((List (Int) × ((Unit × (((Unit × Unit) × Unit) × Unit)) × (Int × (Int × Unit)))) ⊕ (((Unit × (((Unit × Unit) × Unit) × Unit)) × Unit) ⊕ (Int × ((Unit × (((Unit × Unit) × Unit) × Unit)) × Unit)))) :=
 bif (ltI t8 t7) then
  bif (inB t8 (List.length s)) then
   bnd (f_bkOid (getU (t:=Tm.int) s t8)) fun y2 =>
   bif (!y2.1.1) then
    some (.inr (.inr (t8,(((),((((),()),()),())),()))))
   else bif (inR (t8+(1:Int))) then
    some (.inl (s,(((),((((),()),()),())),(t7,((t8+(1:Int)),())))))
   else none
  else none
 else some (.inr (.inl (((),((((),()),()),())),())))
noncomputable def l_ifInt_0:Lp Tryz.prog:=mkLp (P:=Tryz.prog) [0,1,7,8] [33,140,3,3] 1 [0] (tC (tRow Tm.int) (tC (tFn 169 tNil (tC (tPtr 0 140 (tC (tFn 124 tNil tNil) tNil)) tNil)) (tC tI (tC tI tNil)))) [⟨.exit 0,[1],[140],1,(tC (tFn 169 tNil (tC (tPtr 0 140 (tC (tFn 124 tNil tNil) tNil)) tNil)) tNil)⟩,⟨.ret,[4,1],[3,140],1,(tC tI (tC (tFn 169 tNil (tC (tPtr 0 140 (tC (tFn 124 tNil tNil) tNil)) tNil)) tNil))⟩] (fun x=>s_ifInt_0 x.1 x.2.1 x.2.2.1 x.2.2.2.1)
noncomputable def u_ifInt_0 (s:List (Int)) (f:(Unit × (((Unit × Unit) × Unit) × Unit))) (t7:Int) (t8:Int):Nat:=Int.toNat (t7 - t8)+1
noncomputable def k_ifInt_0:Lk Tryz.prog 219 0:=mkLk hm0 en0 l_ifInt_0 0 (fun x=>u_ifInt_0 x.1 x.2.1 x.2.2.1 x.2.2.2.1) (natX_ok c_bkOid (nat0_ok _)) [] (by kernel_rfl) fun x=>by kernel_rfl
noncomputable def f_ifInt (a0:List (Int)) (a1:(Unit × (((Unit × Unit) × Unit) × Unit))):Option ((Int × Unit) × Unit) :=
 bnd (lpF l_ifInt_0.step (u_ifInt_0 a0 ((),((((),()),()),())) (Int.ofNat (List.length a0)) (0:Int)) (a0,(((),((((),()),()),())),((Int.ofNat (List.length a0)),((0:Int),()))))) fun y0 =>
 match y0 with
 | .inl y1 =>
  some (((-(1:Int)),()),())
 | .inr y1 =>
  some ((y1.1,()),())
noncomputable def c_ifInt:Go.RK.Fn Tryz.prog 219:=mkFn hm0 en0 (by kernel_rfl) [33,140] [3] (tC (qR .int (nu 0)) (tC ((fun n=>tFn 169 tNil (tC (tPtr (n 0) 140 (tC (tFn 124 tNil tNil) tNil)) tNil)) (nu 0)) tNil)) (tC (qI (nu 1)) tNil) tNil 1 1 (natX_ok c_bkOid (nat0_ok _)) [⟨_,k_ifInt_0⟩] (by kernel_rfl) (fun x=>f_ifInt x.1 x.2.1) fun x=>by kernel_rfl
noncomputable def f_evCol (a0:List (Col)) (a1:(Unit × Unit)):Option ((Bool × Unit) × Unit) :=
 bif (leI (Int.ofNat (List.length a0)) (65535:Int)) then
  bnd (f_ifCol a0 ((),((((),()),()),()))) fun y0 =>
  some (((!(leI (0:Int) y0.1.1)),()),())
 else some ((false,()),())
noncomputable def c_evCol:Go.RK.Fn Tryz.prog 117:=mkFn hm0 en0 (by kernel_rfl) [74,190] [4] (tC (qR .col (nu 0)) (tC ((fun _=>tFn 118 tNil tNil) (nu 0)) tNil)) (tC (qB (nu 0)) tNil) tNil 0 0 (natX_ok c_ifCol (natX_ok c_bkCol (nat0_ok _))) [] (by kernel_rfl) (fun x=>f_evCol x.1 x.2.1) fun x=>by kernel_rfl
noncomputable def f_evField (a0:List (Field)) (a1:(Unit × Unit)):Option ((Bool × Unit) × Unit) :=
 bif (leI (Int.ofNat (List.length a0)) (65535:Int)) then
  bnd (f_ifField a0 ((),((((),()),()),()))) fun y0 =>
  some (((!(leI (0:Int) y0.1.1)),()),())
 else some ((false,()),())
noncomputable def c_evField:Go.RK.Fn Tryz.prog 119:=mkFn hm0 en0 (by kernel_rfl) [76,192] [4] (tC (qR .field (nu 0)) (tC ((fun _=>tFn 120 tNil tNil) (nu 0)) tNil)) (tC (qB (nu 0)) tNil) tNil 0 0 (natX_ok c_ifField (natX_ok c_bkField (nat0_ok _))) [] (by kernel_rfl) (fun x=>f_evField x.1 x.2.1) fun x=>by kernel_rfl
noncomputable def f_evCell (a0:List (Cell)) (a1:(Unit × Unit)):Option ((Bool × Unit) × Unit) :=
 bif (leI (Int.ofNat (List.length a0)) (65535:Int)) then
  bnd (f_ifCell a0 ((),((((),()),()),()))) fun y0 =>
  some (((!(leI (0:Int) y0.1.1)),()),())
 else some ((false,()),())
noncomputable def c_evCell:Go.RK.Fn Tryz.prog 121:=mkFn hm0 en0 (by kernel_rfl) [75,194] [4] (tC (qR .cell (nu 0)) (tC ((fun _=>tFn 122 tNil tNil) (nu 0)) tNil)) (tC (qB (nu 0)) tNil) tNil 0 0 (natX_ok c_ifCell (natX_ok c_bkCell (nat0_ok _))) [] (by kernel_rfl) (fun x=>f_evCell x.1 x.2.1) fun x=>by kernel_rfl
noncomputable def f_evInt (a0:List (Int)) (a1:(Unit × Unit)):Option ((Bool × Unit) × Unit) :=
 bif (leI (Int.ofNat (List.length a0)) (65535:Int)) then
  bnd (f_ifInt a0 ((),((((),()),()),()))) fun y0 =>
  some (((!(leI (0:Int) y0.1.1)),()),())
 else some ((false,()),())
noncomputable def c_evInt:Go.RK.Fn Tryz.prog 123:=mkFn hm0 en0 (by kernel_rfl) [33,140] [4] (tC (qR .int (nu 0)) (tC ((fun _=>tFn 124 tNil tNil) (nu 0)) tNil)) (tC (qB (nu 0)) tNil) tNil 0 0 (natX_ok c_ifInt (natX_ok c_bkOid (nat0_ok _))) [] (by kernel_rfl) (fun x=>f_evInt x.1 x.2.1) fun x=>by kernel_rfl
noncomputable def f_bkAlike (a0:Cell) (a1:Cell):Option ((Bool × Unit) × Unit) :=
 bif decide (a0.null=a1.null) then
  some ((decide (a0.bytes=a1.bytes),()),())
 else some ((false,()),())
noncomputable def c_bkAlike:Go.RK.Fn Tryz.prog 174:=mkFn hm0 en0 (by kernel_rfl) [135,135] [4] (tC (qCe (nu 0)) (tC (qCe (nu 0)) tNil)) (tC (qB (nu 0)) tNil) tNil 0 0 (natX_ok c_byEqual (nat0_ok _)) [] (by kernel_rfl) (fun x=>f_bkAlike x.1 x.2.1) fun x=>by kernel_rfl
noncomputable def s_eqfB_0 (s2:List (Cell)) (eq:(Unit × Unit)) (t15:List (Cell)) (t16:Int) (t17:Int):Option ((List (Cell) × ((Unit × Unit) × (List (Cell) × (Int × (Int × Unit))))) ⊕ (Unit ⊕ (Bool × Unit))) :=
 bif (ltI t17 t16) then
  bif (inB t17 (List.length t15)) then
   bif (inB t17 (List.length s2)) then
    bnd (f_bkAlike (getU (t:=Tm.cell) t15 t17) (getU (t:=Tm.cell) s2 t17)) fun y2 =>
    bif (!y2.1.1) then
     some (.inr (.inr (false,())))
    else bif (inR (t17+(1:Int))) then
     some (.inl (s2,(((),()),(t15,(t16,((t17+(1:Int)),()))))))
    else none
   else none
  else none
 else some (.inr (.inl ()))
noncomputable def l_eqfB_0:Lp Tryz.prog:=mkLp (P:=Tryz.prog) [1,2,15,16,17] [75,258,75,3,3] 0 [] (tC (tRow Tm.cell) (tC (tFn 174 tNil tNil) (tC (tRow Tm.cell) (tC tI (tC tI tNil))))) [⟨.exit 0,[],[],0,tNil⟩,⟨.ret,[6],[4],0,(tC tBool tNil)⟩] (fun x=>s_eqfB_0 x.1 x.2.1 x.2.2.1 x.2.2.2.1 x.2.2.2.2.1)
noncomputable def u_eqfB_0 (s2:List (Cell)) (eq:(Unit × Unit)) (t15:List (Cell)) (t16:Int) (t17:Int):Nat:=Int.toNat (t16 - t17)+1
noncomputable def k_eqfB_0:Lk Tryz.prog 173 0:=mkLk hm0 en0 l_eqfB_0 0 (fun x=>u_eqfB_0 x.1 x.2.1 x.2.2.1 x.2.2.2.1 x.2.2.2.2.1) (natX_ok c_bkAlike (nat0_ok _)) [] (by kernel_rfl) fun x=>by kernel_rfl
noncomputable def f_eqfB (a0:List (Cell)) (a1:List (Cell)) (a2:(Unit × Unit)):Option ((Bool × Unit) × Unit) :=
 bif (!decide ((Int.ofNat (List.length a0))=(Int.ofNat (List.length a1)))) then
  some ((false,()),())
 else bnd (lpF l_eqfB_0.step (u_eqfB_0 a1 ((),()) a0 (Int.ofNat (List.length a0)) (0:Int)) (a1,(((),()),(a0,((Int.ofNat (List.length a0)),((0:Int),())))))) fun y0 =>
 match y0 with
 | .inl y1 =>
  some ((true,()),())
 | .inr y1 =>
  some ((y1.1,()),())
noncomputable def c_eqfB:Go.RK.Fn Tryz.prog 173:=mkFn hm0 en0 (by kernel_rfl) [75,75,258] [4] (tC (qR .cell (nu 0)) (tC (qR .cell (nu 0)) (tC ((fun _=>tFn 174 tNil tNil) (nu 0)) tNil))) (tC (qB (nu 0)) tNil) tNil 0 0 (natX_ok c_bkAlike (nat0_ok _)) [⟨_,k_eqfB_0⟩] (by kernel_rfl) (fun x=>f_eqfB x.1 x.2.1 x.2.2.1) fun x=>by kernel_rfl
noncomputable def f_bkSame (a0:Back) (a1:Back):Option ((Bool × Unit) × Unit) :=
 bif decide ((Int.ofNat (UInt8.toNat a0.kind))=(Int.ofNat (UInt8.toNat a1.kind))) then
  bif decide ((Int.ofNat (UInt8.toNat a0.status))=(Int.ofNat (UInt8.toNat a1.status))) then
   bif decide (a0.n=a1.n) then
    bnd (f_eqInt a0.oids a1.oids) fun y0 =>
    bif y0.1.1 then
     bnd (f_eqCol a0.cols a1.cols) fun y1 =>
     bif y1.1.1 then
      bnd (f_eqField a0.fields a1.fields) fun y2 =>
      bif decide (a0.m=a1.m) then
       bif (decide (a0.tag=a1.tag) && (decide (a0.name=a1.name) && (decide (a0.value=a1.value) && true))) then
        bif y2.1.1 then
         bnd (f_eqfB a0.row a1.row ((),())) fun y3 =>
         some ((y3.1.1,()),())
        else some ((false,()),())
       else some ((false,()),())
      else some ((false,()),())
     else bif decide (a0.m=a1.m) then
      bif (decide (a0.tag=a1.tag) && (decide (a0.name=a1.name) && (decide (a0.value=a1.value) && true))) then
       some ((false,()),())
      else some ((false,()),())
     else some ((false,()),())
    else bif decide (a0.m=a1.m) then
     bif (decide (a0.tag=a1.tag) && (decide (a0.name=a1.name) && (decide (a0.value=a1.value) && true))) then
      some ((false,()),())
     else some ((false,()),())
    else some ((false,()),())
   else bnd (f_eqInt a0.oids a1.oids) fun y4 =>
   bif y4.1.1 then
    bnd (f_eqCol a0.cols a1.cols) fun y5 =>
    bif y5.1.1 then
     bnd (f_eqField a0.fields a1.fields) fun y6 =>
     some ((false,()),())
    else some ((false,()),())
   else some ((false,()),())
  else bnd (f_eqInt a0.oids a1.oids) fun y7 =>
  bif y7.1.1 then
   bnd (f_eqCol a0.cols a1.cols) fun y8 =>
   bif y8.1.1 then
    bnd (f_eqField a0.fields a1.fields) fun y9 =>
    some ((false,()),())
   else some ((false,()),())
  else some ((false,()),())
 else bnd (f_eqInt a0.oids a1.oids) fun y10 =>
 bif y10.1.1 then
  bnd (f_eqCol a0.cols a1.cols) fun y11 =>
  bif y11.1.1 then
   bnd (f_eqField a0.fields a1.fields) fun y12 =>
   some ((false,()),())
  else some ((false,()),())
 else some ((false,()),())
noncomputable def c_bkSame:Go.RK.Fn Tryz.prog 126:=mkFn hm0 en0 (by kernel_rfl) [78,78] [4] (tC (qBk (nu 0)) (tC (qBk (nu 0)) tNil)) (tC (qB (nu 0)) tNil) tNil 0 0 (natX_ok c_eqInt (natX_ok c_eqCol (natX_ok c_eqField (natX_ok c_eqfB (natX_ok c_bkAlike (nat0_ok _)))))) [] (by kernel_rfl) (fun x=>f_bkSame x.1 x.2.1) fun x=>by kernel_rfl
noncomputable def f_bkOf (a0:Back):Option ((Back × Unit) × Unit) :=
 bif decide ((Int.ofNat (UInt8.toNat a0.kind))=(83:Int)) then
  some (((Back.mk a0.kind (UInt8.ofNat 0) ([]:Bs) a0.name a0.value (0:Int) (0:Int) ([]:List (Int)) ([]:List (Col)) ([]:List (Cell)) ([]:List (Field))),()),())
 else bif decide ((Int.ofNat (UInt8.toNat a0.kind))=(75:Int)) then
  some (((Back.mk a0.kind (UInt8.ofNat 0) ([]:Bs) ([]:Bs) ([]:Bs) a0.n a0.m ([]:List (Int)) ([]:List (Col)) ([]:List (Cell)) ([]:List (Field))),()),())
 else bif decide ((Int.ofNat (UInt8.toNat a0.kind))=(90:Int)) then
  some (((Back.mk a0.kind a0.status ([]:Bs) ([]:Bs) ([]:Bs) (0:Int) (0:Int) ([]:List (Int)) ([]:List (Col)) ([]:List (Cell)) ([]:List (Field))),()),())
 else bif decide ((Int.ofNat (UInt8.toNat a0.kind))=(67:Int)) then
  some (((Back.mk a0.kind (UInt8.ofNat 0) a0.tag ([]:Bs) ([]:Bs) (0:Int) (0:Int) ([]:List (Int)) ([]:List (Col)) ([]:List (Cell)) ([]:List (Field))),()),())
 else bif decide ((Int.ofNat (UInt8.toNat a0.kind))=(68:Int)) then
  some (((Back.mk a0.kind (UInt8.ofNat 0) ([]:Bs) ([]:Bs) ([]:Bs) (0:Int) (0:Int) ([]:List (Int)) ([]:List (Col)) a0.row ([]:List (Field))),()),())
 else bif decide ((Int.ofNat (UInt8.toNat a0.kind))=(84:Int)) then
  some (((Back.mk a0.kind (UInt8.ofNat 0) ([]:Bs) ([]:Bs) ([]:Bs) (0:Int) (0:Int) ([]:List (Int)) a0.cols ([]:List (Cell)) ([]:List (Field))),()),())
 else bif decide ((Int.ofNat (UInt8.toNat a0.kind))=(116:Int)) then
  some (((Back.mk a0.kind (UInt8.ofNat 0) ([]:Bs) ([]:Bs) ([]:Bs) (0:Int) (0:Int) a0.oids ([]:List (Col)) ([]:List (Cell)) ([]:List (Field))),()),())
 else bif decide ((Int.ofNat (UInt8.toNat a0.kind))=(69:Int)) then
  some (((Back.mk a0.kind (UInt8.ofNat 0) ([]:Bs) ([]:Bs) ([]:Bs) (0:Int) (0:Int) ([]:List (Int)) ([]:List (Col)) ([]:List (Cell)) a0.fields),()),())
 else bif decide ((Int.ofNat (UInt8.toNat a0.kind))=(78:Int)) then
  some (((Back.mk a0.kind (UInt8.ofNat 0) ([]:Bs) ([]:Bs) ([]:Bs) (0:Int) (0:Int) ([]:List (Int)) ([]:List (Col)) ([]:List (Cell)) a0.fields),()),())
 else some (((Back.mk a0.kind (UInt8.ofNat 0) ([]:Bs) ([]:Bs) ([]:Bs) (0:Int) (0:Int) ([]:List (Int)) ([]:List (Col)) ([]:List (Cell)) ([]:List (Field))),()),())
noncomputable def c_bkOf:Go.RK.Fn Tryz.prog 127:=mkFn hm0 en0 (by kernel_rfl) [78] [78] (tC (qBk (nu 0)) tNil) (tC (qBk (nu 0)) tNil) tNil 0 0 (nat0_ok _) [] (by kernel_rfl) (fun x=>f_bkOf x.1) fun x=>by kernel_rfl
noncomputable def f_bkCheck (a0:Back):Option ((Int × Unit) × Unit) :=
 bnd (f_known a0.kind) fun y0 =>
 bif (!y0.1.1) then
  some (((9:Int),()),())
 else bnd (f_clean a0.tag) fun y1 =>
 bif y1.1.1 then
  bnd (f_clean a0.name) fun y2 =>
  bif y2.1.1 then
   bnd (f_clean a0.value) fun y3 =>
   bnd (f_evCol a0.cols ((),())) fun y4 =>
   bif y4.1.1 then
    bnd (f_evField a0.fields ((),())) fun y5 =>
    bif y5.1.1 then
     bnd (f_evCell a0.row ((),())) fun y6 =>
     bif y6.1.1 then
      bnd (f_evInt a0.oids ((),())) fun y7 =>
      bif (!y3.1.1) then
       some (((1:Int),()),())
      else bif (!y7.1.1) then
       some (((1:Int),()),())
      else bnd (f_bkOid a0.n) fun y8 =>
      bif (!y8.1.1) then
       some (((1:Int),()),())
      else bnd (f_bkOid a0.m) fun y9 =>
      bif (!y9.1.1) then
       some (((1:Int),()),())
      else bnd (f_bkStatus a0) fun y10 =>
      bif (!y10.1.1) then
       some (((1:Int),()),())
      else bnd (f_bkOf a0) fun y11 =>
      bnd (f_bkSame a0 y11.1.1) fun y12 =>
      bif (!y12.1.1) then
       some (((1:Int),()),())
      else some (((0:Int),()),())
     else bif (!y3.1.1) then
      some (((1:Int),()),())
     else some (((1:Int),()),())
    else bif (!y3.1.1) then
     some (((1:Int),()),())
    else some (((1:Int),()),())
   else bif (!y3.1.1) then
    some (((1:Int),()),())
   else some (((1:Int),()),())
  else bnd (f_evCol a0.cols ((),())) fun y13 =>
  bif y13.1.1 then
   bnd (f_evField a0.fields ((),())) fun y14 =>
   bif y14.1.1 then
    bnd (f_evCell a0.row ((),())) fun y15 =>
    bif y15.1.1 then
     bnd (f_evInt a0.oids ((),())) fun y16 =>
     some (((1:Int),()),())
    else some (((1:Int),()),())
   else some (((1:Int),()),())
  else some (((1:Int),()),())
 else bnd (f_evCol a0.cols ((),())) fun y17 =>
 bif y17.1.1 then
  bnd (f_evField a0.fields ((),())) fun y18 =>
  bif y18.1.1 then
   bnd (f_evCell a0.row ((),())) fun y19 =>
   bif y19.1.1 then
    bnd (f_evInt a0.oids ((),())) fun y20 =>
    some (((1:Int),()),())
   else some (((1:Int),()),())
  else some (((1:Int),()),())
 else some (((1:Int),()),())
noncomputable def c_bkCheck:Go.RK.Fn Tryz.prog 86:=mkFn hm0 en0 (by kernel_rfl) [78] [49] (tC (qBk (nu 0)) tNil) (tC (qI (nu 0)) tNil) tNil 0 0 (natX_ok c_known (natX_ok c_clean (natX_ok c_evCol (natX_ok c_bkCol (natX_ok c_evField (natX_ok c_bkField (natX_ok c_evCell (natX_ok c_bkCell (natX_ok c_evInt (natX_ok c_bkOid (natX_ok c_bkStatus (natX_ok c_bkSame (natX_ok c_bkOf (nat0_ok _)))))))))))))) [] (by kernel_rfl) (fun x=>f_bkCheck x.1) fun x=>by kernel_rfl
end Go.Proofs.YtjgeofdgdlmcoaaGreatDoor
namespace Go.Proofs.YtjgeofdgdlmcoaaGreatDoor
open Go Go.RK
open Go.RK.Uni (Ty El)
open Go.RK.Byt (bT)
theorem st_colsRow_0 (t2:(Int × (Int × (List (UInt8) × (List (UInt8) × (List (UInt8) × (Int × (Int × (List (Int) × (List (Col) × (List (Cell) × (List (Field) × Unit)))))))))))) (own:List (Cell)) (t9:List (Cell)) (t10:Int) (t11:Int) (h0:0≤t11∧t11≤t10∧t10≤1000000) (h1:t10≤(t9.length:Int)) (h2:t10≤(own.length:Int)) (h3:own.length=t9.length∧own.length≤4000) (h4:CellsB own∧CellsB t9):Tt (s_colsRow_0 t2 own t9 t10 t11) fun r=>match r with | .inl (t2',own',t9',t10',t11',_)=>((0≤t11'∧t11'≤t10'∧t10'≤1000000)∧(t10'≤(t9'.length:Int))∧(t10'≤(own'.length:Int))∧(own'.length=t9'.length∧own'.length≤4000)∧(CellsB own'∧CellsB t9'))∧(t10' - t11').toNat < (t10 - t11).toNat | .inr y=>CellsB y.2.1∧y.2.1.length≤4000:=by
 unfold s_colsRow_0
 try dsimp only [El_cell]
 refine Tt.bif (fun h=>?_) (fun h=>?_)
 refine Tt.ok (by grind) ?_
 refine Tt.ok (by grind) ?_
 refine Tt.ok (by grind) ?_
 refine Tt.ok (by grind) ?_
 refine Tt.ok (by grind) ?_
 exact Tt.ret (by grind)
 exact Tt.ret (by grind)
theorem lt_colsRow_0 (t2:(Int × (Int × (List (UInt8) × (List (UInt8) × (List (UInt8) × (Int × (Int × (List (Int) × (List (Col) × (List (Cell) × (List (Field) × Unit)))))))))))) (own:List (Cell)) (t9:List (Cell)) (t10:Int) (t11:Int) (h0:0≤t11∧t11≤t10∧t10≤1000000) (h1:t10≤(t9.length:Int)) (h2:t10≤(own.length:Int)) (h3:own.length=t9.length∧own.length≤4000) (h4:CellsB own∧CellsB t9):Tt (α:=((Int × (Int × (List (UInt8) × (List (UInt8) × (List (UInt8) × (Int × (Int × (List (Int) × (List (Col) × (List (Cell) × (List (Field) × Unit))))))))))) × (List (Cell) × Unit))) (lpF l_colsRow_0.step (u_colsRow_0 t2 own t9 t10 t11) (t2,(own,(t9,(t10,(t11,())))))) fun y=>CellsB y.2.1∧y.2.1.length≤4000:=by
 refine Tt.lp (fun x=>(0≤x.2.2.2.2.1∧x.2.2.2.2.1≤x.2.2.2.1∧x.2.2.2.1≤1000000)∧(x.2.2.2.1≤(x.2.2.1.length:Int))∧(x.2.2.2.1≤(x.2.1.length:Int))∧(x.2.1.length=x.2.2.1.length∧x.2.1.length≤4000)∧(CellsB x.2.1∧CellsB x.2.2.1)) (fun x=>(x.2.2.2.1 - x.2.2.2.2.1).toNat) (fun x h=>(st_colsRow_0 x.1 x.2.1 x.2.2.1 x.2.2.2.1 x.2.2.2.2.1 h.1 h.2.1 h.2.2.1 h.2.2.2.1 h.2.2.2.2).mono fun r hr=>?_) (by exact ⟨h0,h1,h2,h3,h4⟩) (by unfold u_colsRow_0;grind)
 rcases r with r | r <;> exact hr
theorem t_colsRow (a0:List (Cell)) (h0:a0.length≤4000) (h1:CellsB a0):Tt (f_colsRow a0) fun y=>BackB y.1.1:=by
 unfold f_colsRow
 refine Tt.ok (by grind) ?_
 refine Tt.bnd (lt_colsRow_0 _ _ _ _ _ (by grind) (by grind) (by grind) (by grind) (by grind)) fun (y0:((Int × (Int × (List (UInt8) × (List (UInt8) × (List (UInt8) × (Int × (Int × (List (Int) × (List (Col) × (List (Cell) × (List (Field) × Unit))))))))))) × (List (Cell) × Unit))) hy0=>?_
 exact Tt.ret (by grind)
theorem t_byHasPrefix (a0:List (UInt8)) (a1:List (UInt8)):Tt (f_byHasPrefix a0 a1) fun y=>y.1.1=true→a0.take a1.length=a1:=by
 unfold f_byHasPrefix
 refine Tt.bif (fun h=>?_) (fun h=>?_)
 refine Tt.ok (by grind) ?_
 exact Tt.ret (by grind)
 exact Tt.ret (by grind)
theorem t_byHasSuffix (a0:List (UInt8)) (a1:List (UInt8)) (h0:a0.length≤140737488355328):Tt (f_byHasSuffix a0 a1) fun y=>True:=by
 unfold f_byHasSuffix
 refine Tt.bif (fun h=>?_) (fun h=>?_)
 refine Tt.ok (by grind) ?_
 refine Tt.ok (by grind) ?_
 exact Tt.ret (by grind)
 exact Tt.ret (by grind)
theorem t_byIndexByte (a0:List (UInt8)) (a1:UInt8):Tt (f_byIndexByte a0 a1) fun y => -1≤y.1.1∧y.1.1 < a0.length:=by
 unfold f_byIndexByte
 refine Tt.bnd (t_ixB _ _) fun y0 hy0=>?_
 exact Tt.ret (by grind)
theorem t_stIndexByte (a0:List (UInt8)) (a1:UInt8):Tt (f_stIndexByte a0 a1) fun y => -1≤y.1.1∧y.1.1 < a0.length:=by
 unfold f_stIndexByte
 refine Tt.bnd (t_ixS _ _) fun y0 hy0=>?_
 exact Tt.ret (by grind)
theorem st_eqInt_0 (s1:List (Int)) (s2:List (Int)) (t12:Int) (t13:Int) (h0:0≤t13∧t13≤t12∧t12≤1000000) (h1:t12≤(s1.length:Int)) (h2:t12≤(s2.length:Int)):Tt (s_eqInt_0 s1 s2 t12 t13) fun r=>match r with | .inl (s1',s2',t12',t13',_)=>((0≤t13'∧t13'≤t12'∧t12'≤1000000)∧(t12'≤(s1'.length:Int))∧(t12'≤(s2'.length:Int)))∧(t12' - t13').toNat < (t12 - t13).toNat | .inr y=>True:=by
 unfold s_eqInt_0
 try dsimp only [El_int]
 refine Tt.bif (fun h=>?_) (fun h=>?_)
 refine Tt.ok (by grind) ?_
 refine Tt.ok (by grind) ?_
 refine Tt.bif (fun h=>?_) (fun h=>?_)
 exact Tt.ret (by grind)
 refine Tt.ok (by grind) ?_
 exact Tt.ret (by grind)
 exact Tt.ret (by grind)
theorem lt_eqInt_0 (s1:List (Int)) (s2:List (Int)) (t12:Int) (t13:Int) (h0:0≤t13∧t13≤t12∧t12≤1000000) (h1:t12≤(s1.length:Int)) (h2:t12≤(s2.length:Int)):Tt (α:=(Unit ⊕ (Bool × Unit))) (lpF l_eqInt_0.step (u_eqInt_0 s1 s2 t12 t13) (s1,(s2,(t12,(t13,()))))) fun y=>True:=by
 refine Tt.lp (fun x=>(0≤x.2.2.2.1∧x.2.2.2.1≤x.2.2.1∧x.2.2.1≤1000000)∧(x.2.2.1≤(x.1.length:Int))∧(x.2.2.1≤(x.2.1.length:Int))) (fun x=>(x.2.2.1 - x.2.2.2.1).toNat) (fun x h=>(st_eqInt_0 x.1 x.2.1 x.2.2.1 x.2.2.2.1 h.1 h.2.1 h.2.2).mono fun r hr=>?_) (by exact ⟨h0,h1,h2⟩) (by unfold u_eqInt_0;grind)
 rcases r with r | r <;> exact hr
theorem t_eqInt (a0:List (Int)) (a1:List (Int)) (h0:a0.length≤1000000) (h1:a1.length≤1000000):Tt (f_eqInt a0 a1) fun y=>True:=by
 unfold f_eqInt
 refine Tt.bif (fun h=>?_) (fun h=>?_)
 exact Tt.ret (by grind)
 refine Tt.bnd (lt_eqInt_0 _ _ _ _ (by grind) (by grind) (by grind)) fun (y0:(Unit ⊕ (Bool × Unit))) hy0=>?_
 rcases y0 with y1 | y1
 exact Tt.ret (by grind)
 exact Tt.ret (by grind)
theorem st_eqCol_0 (s1:List (Col)) (s2:List (Col)) (t12:Int) (t13:Int) (h0:0≤t13∧t13≤t12∧t12≤1000000) (h1:t12≤(s1.length:Int)) (h2:t12≤(s2.length:Int)):Tt (s_eqCol_0 s1 s2 t12 t13) fun r=>match r with | .inl (s1',s2',t12',t13',_)=>((0≤t13'∧t13'≤t12'∧t12'≤1000000)∧(t12'≤(s1'.length:Int))∧(t12'≤(s2'.length:Int)))∧(t12' - t13').toNat < (t12 - t13).toNat | .inr y=>True:=by
 unfold s_eqCol_0
 try dsimp only [El_col]
 refine Tt.bif (fun h=>?_) (fun h=>?_)
 refine Tt.ok (by grind) ?_
 refine Tt.ok (by grind) ?_
 refine Tt.bif (fun h=>?_) (fun h=>?_)
 exact Tt.ret (by grind)
 refine Tt.ok (by grind) ?_
 exact Tt.ret (by grind)
 exact Tt.ret (by grind)
theorem lt_eqCol_0 (s1:List (Col)) (s2:List (Col)) (t12:Int) (t13:Int) (h0:0≤t13∧t13≤t12∧t12≤1000000) (h1:t12≤(s1.length:Int)) (h2:t12≤(s2.length:Int)):Tt (α:=(Unit ⊕ (Bool × Unit))) (lpF l_eqCol_0.step (u_eqCol_0 s1 s2 t12 t13) (s1,(s2,(t12,(t13,()))))) fun y=>True:=by
 refine Tt.lp (fun x=>(0≤x.2.2.2.1∧x.2.2.2.1≤x.2.2.1∧x.2.2.1≤1000000)∧(x.2.2.1≤(x.1.length:Int))∧(x.2.2.1≤(x.2.1.length:Int))) (fun x=>(x.2.2.1 - x.2.2.2.1).toNat) (fun x h=>(st_eqCol_0 x.1 x.2.1 x.2.2.1 x.2.2.2.1 h.1 h.2.1 h.2.2).mono fun r hr=>?_) (by exact ⟨h0,h1,h2⟩) (by unfold u_eqCol_0;grind)
 rcases r with r | r <;> exact hr
theorem t_eqCol (a0:List (Col)) (a1:List (Col)) (h0:a0.length≤1000000) (h1:a1.length≤1000000):Tt (f_eqCol a0 a1) fun y=>True:=by
 unfold f_eqCol
 refine Tt.bif (fun h=>?_) (fun h=>?_)
 exact Tt.ret (by grind)
 refine Tt.bnd (lt_eqCol_0 _ _ _ _ (by grind) (by grind) (by grind)) fun (y0:(Unit ⊕ (Bool × Unit))) hy0=>?_
 rcases y0 with y1 | y1
 exact Tt.ret (by grind)
 exact Tt.ret (by grind)
theorem st_eqField_0 (s1:List (Field)) (s2:List (Field)) (t12:Int) (t13:Int) (h0:0≤t13∧t13≤t12∧t12≤1000000) (h1:t12≤(s1.length:Int)) (h2:t12≤(s2.length:Int)):Tt (s_eqField_0 s1 s2 t12 t13) fun r=>match r with | .inl (s1',s2',t12',t13',_)=>((0≤t13'∧t13'≤t12'∧t12'≤1000000)∧(t12'≤(s1'.length:Int))∧(t12'≤(s2'.length:Int)))∧(t12' - t13').toNat < (t12 - t13).toNat | .inr y=>True:=by
 unfold s_eqField_0
 try dsimp only [El_field]
 refine Tt.bif (fun h=>?_) (fun h=>?_)
 refine Tt.ok (by grind) ?_
 refine Tt.ok (by grind) ?_
 refine Tt.bif (fun h=>?_) (fun h=>?_)
 exact Tt.ret (by grind)
 refine Tt.ok (by grind) ?_
 exact Tt.ret (by grind)
 exact Tt.ret (by grind)
theorem lt_eqField_0 (s1:List (Field)) (s2:List (Field)) (t12:Int) (t13:Int) (h0:0≤t13∧t13≤t12∧t12≤1000000) (h1:t12≤(s1.length:Int)) (h2:t12≤(s2.length:Int)):Tt (α:=(Unit ⊕ (Bool × Unit))) (lpF l_eqField_0.step (u_eqField_0 s1 s2 t12 t13) (s1,(s2,(t12,(t13,()))))) fun y=>True:=by
 refine Tt.lp (fun x=>(0≤x.2.2.2.1∧x.2.2.2.1≤x.2.2.1∧x.2.2.1≤1000000)∧(x.2.2.1≤(x.1.length:Int))∧(x.2.2.1≤(x.2.1.length:Int))) (fun x=>(x.2.2.1 - x.2.2.2.1).toNat) (fun x h=>(st_eqField_0 x.1 x.2.1 x.2.2.1 x.2.2.2.1 h.1 h.2.1 h.2.2).mono fun r hr=>?_) (by exact ⟨h0,h1,h2⟩) (by unfold u_eqField_0;grind)
 rcases r with r | r <;> exact hr
theorem t_eqField (a0:List (Field)) (a1:List (Field)) (h0:a0.length≤1000000) (h1:a1.length≤1000000):Tt (f_eqField a0 a1) fun y=>True:=by
 unfold f_eqField
 refine Tt.bif (fun h=>?_) (fun h=>?_)
 exact Tt.ret (by grind)
 refine Tt.bnd (lt_eqField_0 _ _ _ _ (by grind) (by grind) (by grind)) fun (y0:(Unit ⊕ (Bool × Unit))) hy0=>?_
 rcases y0 with y1 | y1
 exact Tt.ret (by grind)
 exact Tt.ret (by grind)
theorem t_clean (a0:List (UInt8)):Tt (f_clean a0) fun y=>True:=by
 unfold f_clean
 refine Tt.bnd (t_stIndexByte _ _) fun y0 hy0=>?_
 exact Tt.ret (by grind)
theorem t_known (a0:UInt8):Tt (f_known a0) fun y=>True:=by
 unfold f_known
 refine Tt.bnd (t_byIndexByte _ _) fun y0 hy0=>?_
 exact Tt.ret (by grind)
theorem t_bkCol (a0:Col):Tt (f_bkCol a0) fun y=>True:=by
 unfold f_bkCol
 try dsimp only [El_bound]
 refine Tt.bnd (t_clean _) fun y0 hy0=>?_
 refine Tt.bif (fun h=>?_) (fun h=>?_)
 refine Tt.bif (fun h=>?_) (fun h=>?_)
 exact Tt.ret (by grind)
 refine Tt.bif (fun h=>?_) (fun h=>?_)
 exact Tt.ret (by grind)
 refine Tt.bif (fun h=>?_) (fun h=>?_)
 exact Tt.ret (by grind)
 refine Tt.bif (fun h=>?_) (fun h=>?_)
 exact Tt.ret (by grind)
 refine Tt.bif (fun h=>?_) (fun h=>?_)
 exact Tt.ret (by grind)
 refine Tt.bif (fun h=>?_) (fun h=>?_)
 exact Tt.ret (by grind)
 refine Tt.bif (fun h=>?_) (fun h=>?_)
 exact Tt.ret (by grind)
 refine Tt.bif (fun h=>?_) (fun h=>?_)
 exact Tt.ret (by grind)
 refine Tt.bif (fun h=>?_) (fun h=>?_)
 exact Tt.ret (by grind)
 refine Tt.bif (fun h=>?_) (fun h=>?_)
 exact Tt.ret (by grind)
 refine Tt.bif (fun h=>?_) (fun h=>?_)
 exact Tt.ret (by grind)
 refine Tt.bif (fun h=>?_) (fun h=>?_)
 exact Tt.ret (by grind)
 exact Tt.ret (by grind)
 exact Tt.ret (by grind)
theorem t_bkField (a0:Field):Tt (f_bkField a0) fun y=>True:=by
 unfold f_bkField
 refine Tt.bif (fun h=>?_) (fun h=>?_)
 refine Tt.bnd (t_clean _) fun y0 hy0=>?_
 exact Tt.ret (by grind)
 exact Tt.ret (by grind)
theorem t_bkCell (a0:Cell):Tt (f_bkCell a0) fun y=>True:=by
 unfold f_bkCell
 refine Tt.bif (fun h=>?_) (fun h=>?_)
 refine Tt.bif (fun h=>?_) (fun h=>?_)
 exact Tt.ret (by grind)
 exact Tt.ret (by grind)
 exact Tt.ret (by grind)
theorem t_bkOid (a0:Int):Tt (f_bkOid a0) fun y=>True:=by
 unfold f_bkOid
 refine Tt.bif (fun h=>?_) (fun h=>?_)
 exact Tt.ret (by grind)
 exact Tt.ret (by grind)
theorem t_bkStatus (a0:Back):Tt (f_bkStatus a0) fun y=>True:=by
 unfold f_bkStatus
 refine Tt.bif (fun h=>?_) (fun h=>?_)
 exact Tt.ret (by grind)
 refine Tt.bif (fun h=>?_) (fun h=>?_)
 exact Tt.ret (by grind)
 refine Tt.bif (fun h=>?_) (fun h=>?_)
 exact Tt.ret (by grind)
 exact Tt.ret (by grind)
theorem st_ifCol_0 (s:List (Col)) (f:(Unit × (((Unit × Unit) × Unit) × Unit))) (t7:Int) (t8:Int) (h0:0≤t8∧t8≤t7∧t7≤1000000) (h1:t7≤(s.length:Int)):Tt (s_ifCol_0 s f t7 t8) fun r=>match r with | .inl (s',f',t7',t8',_)=>((0≤t8'∧t8'≤t7'∧t7'≤1000000)∧(t7'≤(s'.length:Int)))∧(t7' - t8').toNat < (t7 - t8).toNat | .inr y=>True:=by
 unfold s_ifCol_0
 try dsimp only [El_col]
 refine Tt.bif (fun h=>?_) (fun h=>?_)
 refine Tt.ok (by grind) ?_
 refine Tt.bnd (t_bkCol _) fun y2 hy2=>?_
 refine Tt.bif (fun h=>?_) (fun h=>?_)
 exact Tt.ret (by grind)
 refine Tt.ok (by grind) ?_
 exact Tt.ret (by grind)
 exact Tt.ret (by grind)
theorem lt_ifCol_0 (s:List (Col)) (f:(Unit × (((Unit × Unit) × Unit) × Unit))) (t7:Int) (t8:Int) (h0:0≤t8∧t8≤t7∧t7≤1000000) (h1:t7≤(s.length:Int)):Tt (α:=(((Unit × (((Unit × Unit) × Unit) × Unit)) × Unit) ⊕ (Int × ((Unit × (((Unit × Unit) × Unit) × Unit)) × Unit)))) (lpF l_ifCol_0.step (u_ifCol_0 s f t7 t8) (s,(f,(t7,(t8,()))))) fun y=>True:=by
 refine Tt.lp (fun x=>(0≤x.2.2.2.1∧x.2.2.2.1≤x.2.2.1∧x.2.2.1≤1000000)∧(x.2.2.1≤(x.1.length:Int))) (fun x=>(x.2.2.1 - x.2.2.2.1).toNat) (fun x h=>(st_ifCol_0 x.1 x.2.1 x.2.2.1 x.2.2.2.1 h.1 h.2).mono fun r hr=>?_) (by exact ⟨h0,h1⟩) (by unfold u_ifCol_0;grind)
 rcases r with r | r <;> exact hr
theorem t_ifCol (a0:List (Col)) (a1:(Unit × (((Unit × Unit) × Unit) × Unit))) (h0:a0.length≤1000000):Tt (f_ifCol a0 a1) fun y=>True:=by
 unfold f_ifCol
 refine Tt.bnd (lt_ifCol_0 _ _ _ _ (by grind) (by grind)) fun (y0:(((Unit × (((Unit × Unit) × Unit) × Unit)) × Unit) ⊕ (Int × ((Unit × (((Unit × Unit) × Unit) × Unit)) × Unit)))) hy0=>?_
 rcases y0 with y1 | y1
 exact Tt.ret (by grind)
 exact Tt.ret (by grind)
theorem st_ifField_0 (s:List (Field)) (f:(Unit × (((Unit × Unit) × Unit) × Unit))) (t7:Int) (t8:Int) (h0:0≤t8∧t8≤t7∧t7≤1000000) (h1:t7≤(s.length:Int)):Tt (s_ifField_0 s f t7 t8) fun r=>match r with | .inl (s',f',t7',t8',_)=>((0≤t8'∧t8'≤t7'∧t7'≤1000000)∧(t7'≤(s'.length:Int)))∧(t7' - t8').toNat < (t7 - t8).toNat | .inr y=>True:=by
 unfold s_ifField_0
 try dsimp only [El_field]
 refine Tt.bif (fun h=>?_) (fun h=>?_)
 refine Tt.ok (by grind) ?_
 refine Tt.bnd (t_bkField _) fun y2 hy2=>?_
 refine Tt.bif (fun h=>?_) (fun h=>?_)
 exact Tt.ret (by grind)
 refine Tt.ok (by grind) ?_
 exact Tt.ret (by grind)
 exact Tt.ret (by grind)
theorem lt_ifField_0 (s:List (Field)) (f:(Unit × (((Unit × Unit) × Unit) × Unit))) (t7:Int) (t8:Int) (h0:0≤t8∧t8≤t7∧t7≤1000000) (h1:t7≤(s.length:Int)):Tt (α:=(((Unit × (((Unit × Unit) × Unit) × Unit)) × Unit) ⊕ (Int × ((Unit × (((Unit × Unit) × Unit) × Unit)) × Unit)))) (lpF l_ifField_0.step (u_ifField_0 s f t7 t8) (s,(f,(t7,(t8,()))))) fun y=>True:=by
 refine Tt.lp (fun x=>(0≤x.2.2.2.1∧x.2.2.2.1≤x.2.2.1∧x.2.2.1≤1000000)∧(x.2.2.1≤(x.1.length:Int))) (fun x=>(x.2.2.1 - x.2.2.2.1).toNat) (fun x h=>(st_ifField_0 x.1 x.2.1 x.2.2.1 x.2.2.2.1 h.1 h.2).mono fun r hr=>?_) (by exact ⟨h0,h1⟩) (by unfold u_ifField_0;grind)
 rcases r with r | r <;> exact hr
theorem t_ifField (a0:List (Field)) (a1:(Unit × (((Unit × Unit) × Unit) × Unit))) (h0:a0.length≤1000000):Tt (f_ifField a0 a1) fun y=>True:=by
 unfold f_ifField
 refine Tt.bnd (lt_ifField_0 _ _ _ _ (by grind) (by grind)) fun (y0:(((Unit × (((Unit × Unit) × Unit) × Unit)) × Unit) ⊕ (Int × ((Unit × (((Unit × Unit) × Unit) × Unit)) × Unit)))) hy0=>?_
 rcases y0 with y1 | y1
 exact Tt.ret (by grind)
 exact Tt.ret (by grind)
theorem st_ifCell_0 (s:List (Cell)) (f:(Unit × (((Unit × Unit) × Unit) × Unit))) (t7:Int) (t8:Int) (h0:0≤t8∧t8≤t7∧t7≤1000000) (h1:t7≤(s.length:Int)):Tt (s_ifCell_0 s f t7 t8) fun r=>match r with | .inl (s',f',t7',t8',_)=>((0≤t8'∧t8'≤t7'∧t7'≤1000000)∧(t7'≤(s'.length:Int)))∧(t7' - t8').toNat < (t7 - t8).toNat | .inr y=>True:=by
 unfold s_ifCell_0
 try dsimp only [El_cell]
 refine Tt.bif (fun h=>?_) (fun h=>?_)
 refine Tt.ok (by grind) ?_
 refine Tt.bnd (t_bkCell _) fun y2 hy2=>?_
 refine Tt.bif (fun h=>?_) (fun h=>?_)
 exact Tt.ret (by grind)
 refine Tt.ok (by grind) ?_
 exact Tt.ret (by grind)
 exact Tt.ret (by grind)
theorem lt_ifCell_0 (s:List (Cell)) (f:(Unit × (((Unit × Unit) × Unit) × Unit))) (t7:Int) (t8:Int) (h0:0≤t8∧t8≤t7∧t7≤1000000) (h1:t7≤(s.length:Int)):Tt (α:=(((Unit × (((Unit × Unit) × Unit) × Unit)) × Unit) ⊕ (Int × ((Unit × (((Unit × Unit) × Unit) × Unit)) × Unit)))) (lpF l_ifCell_0.step (u_ifCell_0 s f t7 t8) (s,(f,(t7,(t8,()))))) fun y=>True:=by
 refine Tt.lp (fun x=>(0≤x.2.2.2.1∧x.2.2.2.1≤x.2.2.1∧x.2.2.1≤1000000)∧(x.2.2.1≤(x.1.length:Int))) (fun x=>(x.2.2.1 - x.2.2.2.1).toNat) (fun x h=>(st_ifCell_0 x.1 x.2.1 x.2.2.1 x.2.2.2.1 h.1 h.2).mono fun r hr=>?_) (by exact ⟨h0,h1⟩) (by unfold u_ifCell_0;grind)
 rcases r with r | r <;> exact hr
theorem t_ifCell (a0:List (Cell)) (a1:(Unit × (((Unit × Unit) × Unit) × Unit))) (h0:a0.length≤1000000):Tt (f_ifCell a0 a1) fun y=>True:=by
 unfold f_ifCell
 refine Tt.bnd (lt_ifCell_0 _ _ _ _ (by grind) (by grind)) fun (y0:(((Unit × (((Unit × Unit) × Unit) × Unit)) × Unit) ⊕ (Int × ((Unit × (((Unit × Unit) × Unit) × Unit)) × Unit)))) hy0=>?_
 rcases y0 with y1 | y1
 exact Tt.ret (by grind)
 exact Tt.ret (by grind)
theorem st_ifInt_0 (s:List (Int)) (f:(Unit × (((Unit × Unit) × Unit) × Unit))) (t7:Int) (t8:Int) (h0:0≤t8∧t8≤t7∧t7≤1000000) (h1:t7≤(s.length:Int)):Tt (s_ifInt_0 s f t7 t8) fun r=>match r with | .inl (s',f',t7',t8',_)=>((0≤t8'∧t8'≤t7'∧t7'≤1000000)∧(t7'≤(s'.length:Int)))∧(t7' - t8').toNat < (t7 - t8).toNat | .inr y=>True:=by
 unfold s_ifInt_0
 try dsimp only [El_int]
 refine Tt.bif (fun h=>?_) (fun h=>?_)
 refine Tt.ok (by grind) ?_
 refine Tt.bnd (t_bkOid _) fun y2 hy2=>?_
 refine Tt.bif (fun h=>?_) (fun h=>?_)
 exact Tt.ret (by grind)
 refine Tt.ok (by grind) ?_
 exact Tt.ret (by grind)
 exact Tt.ret (by grind)
theorem lt_ifInt_0 (s:List (Int)) (f:(Unit × (((Unit × Unit) × Unit) × Unit))) (t7:Int) (t8:Int) (h0:0≤t8∧t8≤t7∧t7≤1000000) (h1:t7≤(s.length:Int)):Tt (α:=(((Unit × (((Unit × Unit) × Unit) × Unit)) × Unit) ⊕ (Int × ((Unit × (((Unit × Unit) × Unit) × Unit)) × Unit)))) (lpF l_ifInt_0.step (u_ifInt_0 s f t7 t8) (s,(f,(t7,(t8,()))))) fun y=>True:=by
 refine Tt.lp (fun x=>(0≤x.2.2.2.1∧x.2.2.2.1≤x.2.2.1∧x.2.2.1≤1000000)∧(x.2.2.1≤(x.1.length:Int))) (fun x=>(x.2.2.1 - x.2.2.2.1).toNat) (fun x h=>(st_ifInt_0 x.1 x.2.1 x.2.2.1 x.2.2.2.1 h.1 h.2).mono fun r hr=>?_) (by exact ⟨h0,h1⟩) (by unfold u_ifInt_0;grind)
 rcases r with r | r <;> exact hr
theorem t_ifInt (a0:List (Int)) (a1:(Unit × (((Unit × Unit) × Unit) × Unit))) (h0:a0.length≤1000000):Tt (f_ifInt a0 a1) fun y=>True:=by
 unfold f_ifInt
 refine Tt.bnd (lt_ifInt_0 _ _ _ _ (by grind) (by grind)) fun (y0:(((Unit × (((Unit × Unit) × Unit) × Unit)) × Unit) ⊕ (Int × ((Unit × (((Unit × Unit) × Unit) × Unit)) × Unit)))) hy0=>?_
 rcases y0 with y1 | y1
 exact Tt.ret (by grind)
 exact Tt.ret (by grind)
theorem t_evCol (a0:List (Col)) (a1:(Unit × Unit)):Tt (f_evCol a0 a1) fun y=>True:=by
 unfold f_evCol
 refine Tt.bif (fun h=>?_) (fun h=>?_)
 refine Tt.bnd (t_ifCol _ _ (by grind)) fun y0 hy0=>?_
 exact Tt.ret (by grind)
 exact Tt.ret (by grind)
theorem t_evField (a0:List (Field)) (a1:(Unit × Unit)):Tt (f_evField a0 a1) fun y=>True:=by
 unfold f_evField
 refine Tt.bif (fun h=>?_) (fun h=>?_)
 refine Tt.bnd (t_ifField _ _ (by grind)) fun y0 hy0=>?_
 exact Tt.ret (by grind)
 exact Tt.ret (by grind)
theorem t_evCell (a0:List (Cell)) (a1:(Unit × Unit)):Tt (f_evCell a0 a1) fun y=>True:=by
 unfold f_evCell
 refine Tt.bif (fun h=>?_) (fun h=>?_)
 refine Tt.bnd (t_ifCell _ _ (by grind)) fun y0 hy0=>?_
 exact Tt.ret (by grind)
 exact Tt.ret (by grind)
theorem t_evInt (a0:List (Int)) (a1:(Unit × Unit)):Tt (f_evInt a0 a1) fun y=>True:=by
 unfold f_evInt
 refine Tt.bif (fun h=>?_) (fun h=>?_)
 refine Tt.bnd (t_ifInt _ _ (by grind)) fun y0 hy0=>?_
 exact Tt.ret (by grind)
 exact Tt.ret (by grind)
theorem t_bkAlike (a0:Cell) (a1:Cell):Tt (f_bkAlike a0 a1) fun y=>True:=by
 unfold f_bkAlike
 refine Tt.bif (fun h=>?_) (fun h=>?_)
 exact Tt.ret (by grind)
 exact Tt.ret (by grind)
theorem st_eqfB_0 (s2:List (Cell)) (eq:(Unit × Unit)) (t15:List (Cell)) (t16:Int) (t17:Int) (h0:0≤t17∧t17≤t16∧t16≤1000000) (h1:t16≤(t15.length:Int)) (h2:t16≤(s2.length:Int)):Tt (s_eqfB_0 s2 eq t15 t16 t17) fun r=>match r with | .inl (s2',eq',t15',t16',t17',_)=>((0≤t17'∧t17'≤t16'∧t16'≤1000000)∧(t16'≤(t15'.length:Int))∧(t16'≤(s2'.length:Int)))∧(t16' - t17').toNat < (t16 - t17).toNat | .inr y=>True:=by
 unfold s_eqfB_0
 try dsimp only [El_cell]
 refine Tt.bif (fun h=>?_) (fun h=>?_)
 refine Tt.ok (by grind) ?_
 refine Tt.ok (by grind) ?_
 refine Tt.bnd (t_bkAlike _ _) fun y2 hy2=>?_
 refine Tt.bif (fun h=>?_) (fun h=>?_)
 exact Tt.ret (by grind)
 refine Tt.ok (by grind) ?_
 exact Tt.ret (by grind)
 exact Tt.ret (by grind)
theorem lt_eqfB_0 (s2:List (Cell)) (eq:(Unit × Unit)) (t15:List (Cell)) (t16:Int) (t17:Int) (h0:0≤t17∧t17≤t16∧t16≤1000000) (h1:t16≤(t15.length:Int)) (h2:t16≤(s2.length:Int)):Tt (α:=(Unit ⊕ (Bool × Unit))) (lpF l_eqfB_0.step (u_eqfB_0 s2 eq t15 t16 t17) (s2,(eq,(t15,(t16,(t17,())))))) fun y=>True:=by
 refine Tt.lp (fun x=>(0≤x.2.2.2.2.1∧x.2.2.2.2.1≤x.2.2.2.1∧x.2.2.2.1≤1000000)∧(x.2.2.2.1≤(x.2.2.1.length:Int))∧(x.2.2.2.1≤(x.1.length:Int))) (fun x=>(x.2.2.2.1 - x.2.2.2.2.1).toNat) (fun x h=>(st_eqfB_0 x.1 x.2.1 x.2.2.1 x.2.2.2.1 x.2.2.2.2.1 h.1 h.2.1 h.2.2).mono fun r hr=>?_) (by exact ⟨h0,h1,h2⟩) (by unfold u_eqfB_0;grind)
 rcases r with r | r <;> exact hr
theorem t_eqfB (a0:List (Cell)) (a1:List (Cell)) (a2:(Unit × Unit)) (h0:a0.length≤1000000) (h1:a1.length≤1000000):Tt (f_eqfB a0 a1 a2) fun y=>True:=by
 unfold f_eqfB
 refine Tt.bif (fun h=>?_) (fun h=>?_)
 exact Tt.ret (by grind)
 refine Tt.bnd (lt_eqfB_0 _ _ _ _ _ (by grind) (by grind) (by grind)) fun (y0:(Unit ⊕ (Bool × Unit))) hy0=>?_
 rcases y0 with y1 | y1
 exact Tt.ret (by grind)
 exact Tt.ret (by grind)
theorem t_bkSame (a0:Back) (a1:Back) (h0:BackB a0) (h1:BackB a1):Tt (f_bkSame a0 a1) fun y=>True:=by
 unfold f_bkSame
 refine Tt.bif (fun h=>?_) (fun h=>?_)
 refine Tt.bif (fun h=>?_) (fun h=>?_)
 refine Tt.bif (fun h=>?_) (fun h=>?_)
 refine Tt.bnd (t_eqInt _ _ (by grind) (by grind)) fun y0 hy0=>?_
 refine Tt.bif (fun h=>?_) (fun h=>?_)
 refine Tt.bnd (t_eqCol _ _ (by grind) (by grind)) fun y1 hy1=>?_
 refine Tt.bif (fun h=>?_) (fun h=>?_)
 refine Tt.bnd (t_eqField _ _ (by grind) (by grind)) fun y2 hy2=>?_
 refine Tt.bif (fun h=>?_) (fun h=>?_)
 refine Tt.bif (fun h=>?_) (fun h=>?_)
 refine Tt.bif (fun h=>?_) (fun h=>?_)
 refine Tt.bnd (t_eqfB _ _ _ (by grind) (by grind)) fun y3 hy3=>?_
 exact Tt.ret (by grind)
 exact Tt.ret (by grind)
 exact Tt.ret (by grind)
 exact Tt.ret (by grind)
 refine Tt.bif (fun h=>?_) (fun h=>?_)
 refine Tt.bif (fun h=>?_) (fun h=>?_)
 exact Tt.ret (by grind)
 exact Tt.ret (by grind)
 exact Tt.ret (by grind)
 refine Tt.bif (fun h=>?_) (fun h=>?_)
 refine Tt.bif (fun h=>?_) (fun h=>?_)
 exact Tt.ret (by grind)
 exact Tt.ret (by grind)
 exact Tt.ret (by grind)
 refine Tt.bnd (t_eqInt _ _ (by grind) (by grind)) fun y4 hy4=>?_
 refine Tt.bif (fun h=>?_) (fun h=>?_)
 refine Tt.bnd (t_eqCol _ _ (by grind) (by grind)) fun y5 hy5=>?_
 refine Tt.bif (fun h=>?_) (fun h=>?_)
 refine Tt.bnd (t_eqField _ _ (by grind) (by grind)) fun y6 hy6=>?_
 exact Tt.ret (by grind)
 exact Tt.ret (by grind)
 exact Tt.ret (by grind)
 refine Tt.bnd (t_eqInt _ _ (by grind) (by grind)) fun y7 hy7=>?_
 refine Tt.bif (fun h=>?_) (fun h=>?_)
 refine Tt.bnd (t_eqCol _ _ (by grind) (by grind)) fun y8 hy8=>?_
 refine Tt.bif (fun h=>?_) (fun h=>?_)
 refine Tt.bnd (t_eqField _ _ (by grind) (by grind)) fun y9 hy9=>?_
 exact Tt.ret (by grind)
 exact Tt.ret (by grind)
 exact Tt.ret (by grind)
 refine Tt.bnd (t_eqInt _ _ (by grind) (by grind)) fun y10 hy10=>?_
 refine Tt.bif (fun h=>?_) (fun h=>?_)
 refine Tt.bnd (t_eqCol _ _ (by grind) (by grind)) fun y11 hy11=>?_
 refine Tt.bif (fun h=>?_) (fun h=>?_)
 refine Tt.bnd (t_eqField _ _ (by grind) (by grind)) fun y12 hy12=>?_
 exact Tt.ret (by grind)
 exact Tt.ret (by grind)
 exact Tt.ret (by grind)
theorem t_bkOf (a0:Back) (h0:BackB a0):Tt (f_bkOf a0) fun y=>BackB y.1.1:=by
 unfold f_bkOf
 refine Tt.bif (fun h=>?_) (fun h=>?_)
 exact Tt.ret (by grind)
 refine Tt.bif (fun h=>?_) (fun h=>?_)
 exact Tt.ret (by grind)
 refine Tt.bif (fun h=>?_) (fun h=>?_)
 exact Tt.ret (by grind)
 refine Tt.bif (fun h=>?_) (fun h=>?_)
 exact Tt.ret (by grind)
 refine Tt.bif (fun h=>?_) (fun h=>?_)
 exact Tt.ret (by grind)
 refine Tt.bif (fun h=>?_) (fun h=>?_)
 exact Tt.ret (by grind)
 refine Tt.bif (fun h=>?_) (fun h=>?_)
 exact Tt.ret (by grind)
 refine Tt.bif (fun h=>?_) (fun h=>?_)
 exact Tt.ret (by grind)
 refine Tt.bif (fun h=>?_) (fun h=>?_)
 exact Tt.ret (by grind)
 exact Tt.ret (by grind)
theorem t_bkCheck (a0:Back) (h0:BackB a0):Tt (f_bkCheck a0) fun y=>True:=by
 unfold f_bkCheck
 refine Tt.bnd (t_known _) fun y0 hy0=>?_
 refine Tt.bif (fun h=>?_) (fun h=>?_)
 exact Tt.ret (by grind)
 refine Tt.bnd (t_clean _) fun y1 hy1=>?_
 refine Tt.bif (fun h=>?_) (fun h=>?_)
 refine Tt.bnd (t_clean _) fun y2 hy2=>?_
 refine Tt.bif (fun h=>?_) (fun h=>?_)
 refine Tt.bnd (t_clean _) fun y3 hy3=>?_
 refine Tt.bnd (t_evCol _ _) fun y4 hy4=>?_
 refine Tt.bif (fun h=>?_) (fun h=>?_)
 refine Tt.bnd (t_evField _ _) fun y5 hy5=>?_
 refine Tt.bif (fun h=>?_) (fun h=>?_)
 refine Tt.bnd (t_evCell _ _) fun y6 hy6=>?_
 refine Tt.bif (fun h=>?_) (fun h=>?_)
 refine Tt.bnd (t_evInt _ _) fun y7 hy7=>?_
 refine Tt.bif (fun h=>?_) (fun h=>?_)
 exact Tt.ret (by grind)
 refine Tt.bif (fun h=>?_) (fun h=>?_)
 exact Tt.ret (by grind)
 refine Tt.bnd (t_bkOid _) fun y8 hy8=>?_
 refine Tt.bif (fun h=>?_) (fun h=>?_)
 exact Tt.ret (by grind)
 refine Tt.bnd (t_bkOid _) fun y9 hy9=>?_
 refine Tt.bif (fun h=>?_) (fun h=>?_)
 exact Tt.ret (by grind)
 refine Tt.bnd (t_bkStatus _) fun y10 hy10=>?_
 refine Tt.bif (fun h=>?_) (fun h=>?_)
 exact Tt.ret (by grind)
 refine Tt.bnd (t_bkOf _ (by grind)) fun y11 hy11=>?_
 refine Tt.bnd (t_bkSame _ _ (by grind) (by grind)) fun y12 hy12=>?_
 refine Tt.bif (fun h=>?_) (fun h=>?_)
 exact Tt.ret (by grind)
 exact Tt.ret (by grind)
 refine Tt.bif (fun h=>?_) (fun h=>?_)
 exact Tt.ret (by grind)
 exact Tt.ret (by grind)
 refine Tt.bif (fun h=>?_) (fun h=>?_)
 exact Tt.ret (by grind)
 exact Tt.ret (by grind)
 refine Tt.bif (fun h=>?_) (fun h=>?_)
 exact Tt.ret (by grind)
 exact Tt.ret (by grind)
 refine Tt.bnd (t_evCol _ _) fun y13 hy13=>?_
 refine Tt.bif (fun h=>?_) (fun h=>?_)
 refine Tt.bnd (t_evField _ _) fun y14 hy14=>?_
 refine Tt.bif (fun h=>?_) (fun h=>?_)
 refine Tt.bnd (t_evCell _ _) fun y15 hy15=>?_
 refine Tt.bif (fun h=>?_) (fun h=>?_)
 refine Tt.bnd (t_evInt _ _) fun y16 hy16=>?_
 exact Tt.ret (by grind)
 exact Tt.ret (by grind)
 exact Tt.ret (by grind)
 exact Tt.ret (by grind)
 refine Tt.bnd (t_evCol _ _) fun y17 hy17=>?_
 refine Tt.bif (fun h=>?_) (fun h=>?_)
 refine Tt.bnd (t_evField _ _) fun y18 hy18=>?_
 refine Tt.bif (fun h=>?_) (fun h=>?_)
 refine Tt.bnd (t_evCell _ _) fun y19 hy19=>?_
 refine Tt.bif (fun h=>?_) (fun h=>?_)
 refine Tt.bnd (t_evInt _ _) fun y20 hy20=>?_
 exact Tt.ret (by grind)
 exact Tt.ret (by grind)
 exact Tt.ret (by grind)
 exact Tt.ret (by grind)
end Go.Proofs.YtjgeofdgdlmcoaaGreatDoor
namespace Go.Proofs.YtjgeofdgdlmcoaaGreatDoor
open Go Go.RK
open Go.RK.Uni (Ty El)
open Go.RK.Byt (bT)
noncomputable def f_scNew (a0:Bs):Option ((Scan × Unit) × Unit) :=
 bnd (f_bClone a0) fun y0 =>
 some (((Scan.mk y0 false true),()),())
noncomputable def c_scNew:Go.RK.Fn Tryz.prog 178:=mkFn hm0 en0 (by kernel_rfl) [28] [260] (tC (qR .by (nu 0)) tNil) (tC (qSc (nu 0)) tNil) tNil 0 1 (natX_ok c_bClone (nat0_ok _)) [] (by kernel_rfl) (fun x=>f_scNew x.1) fun x=>by kernel_rfl
noncomputable def f_scFail (a0:Scan):Option (Unit × (Scan × Unit)) :=
 some ((),((Scan.mk ([]:Bs) true a0.made),()))
noncomputable def c_scFail:Go.RK.Fn Tryz.prog 232:=mkFn hm0 en0 (by kernel_rfl) [260] [] (tC (qSc (nu 0)) tNil) tNil (tC (qSc (nl [0])) tNil) 1 1 (nat0_ok _) [] (by kernel_rfl) (fun x=>f_scFail x.1) fun x=>by kernel_rfl
noncomputable def f_scGood (a0:Scan):Option ((Bool × Unit) × (Scan × Unit)) :=
 bif a0.made then
  some (((!a0.bad),()),(a0,()))
 else some ((false,()),(a0,()))
noncomputable def c_scGood:Go.RK.Fn Tryz.prog 225:=mkFn hm0 en0 (by kernel_rfl) [260] [4] (tC (qSc (nu 0)) tNil) (tC (qB (nu 1)) tNil) (tC (qSc (nl [0])) tNil) 1 1 (nat0_ok _) [] (by kernel_rfl) (fun x=>f_scGood x.1) fun x=>by kernel_rfl
noncomputable def f_scText (a0:Scan):Option ((Bs × Unit) × (Scan × Unit)) :=
 bnd (f_scGood a0) fun y0 =>
 bif (!y0.1.1) then
  some ((([]:Bs),()),(y0.2.1,()))
 else bnd (f_byIndexByte y0.2.1.rest (UInt8.ofNat 0)) fun y1 =>
 bif (ltI y1.1.1 (0:Int)) then
  some ((([]:Bs),()),((Scan.mk ([]:Bs) true y0.2.1.made),()))
 else bif (inR (y1.1.1+(1:Int))) then
  bnd (f_scCut y0.2.1 (y1.1.1+(1:Int))) fun y2 =>
  bif (true && ((leI (0:Int) y1.1.1) && (true && ((Nat.ble (0:Nat) (Int.toNat y1.1.1)) && ((Nat.ble (Int.toNat y1.1.1) (Int.toNat y1.1.1)) && (Nat.ble (Int.toNat y1.1.1) (List.length y2.1.1))))))) then
   some (((List.take ((Int.toNat y1.1.1) - (0:Nat)) (List.drop (0:Nat) y2.1.1)),()),(y2.2.1,()))
  else none
 else none
noncomputable def c_scText:Go.RK.Fn Tryz.prog 221:=mkFn hm0 en0 (by kernel_rfl) [260] [9] (tC (qSc (nu 0)) tNil) (tC (qS (nu 1)) tNil) (tC (qSc (nl [0])) tNil) 1 1 (natX_ok c_byIndexByte (natX_ok c_scGood (natX_ok c_scFail (natX_ok c_scCut (nat0_ok _))))) [] (by kernel_rfl) (fun x=>f_scText x.1) fun x=>by kernel_rfl
noncomputable def f_ftKnown (a0:UInt8):Option ((Int × Unit) × Unit) :=
 bnd (f_byIndexByte [(UInt8.ofNat (Int.toNat (66:Int))),(UInt8.ofNat (Int.toNat (67:Int))),(UInt8.ofNat (Int.toNat (68:Int))),(UInt8.ofNat (Int.toNat (69:Int))),(UInt8.ofNat (Int.toNat (72:Int))),(UInt8.ofNat (Int.toNat (80:Int))),(UInt8.ofNat (Int.toNat (81:Int))),(UInt8.ofNat (Int.toNat (83:Int))),(UInt8.ofNat (Int.toNat (88:Int)))] a0) fun y0 =>
 bif (leI (0:Int) y0.1.1) then
  some (((1:Int),()),())
 else bnd (f_byIndexByte [(UInt8.ofNat (Int.toNat (70:Int))),(UInt8.ofNat (Int.toNat (99:Int))),(UInt8.ofNat (Int.toNat (100:Int))),(UInt8.ofNat (Int.toNat (102:Int))),(UInt8.ofNat (Int.toNat (112:Int)))] a0) fun y1 =>
 bif (leI (0:Int) y1.1.1) then
  some (((2:Int),()),())
 else some (((0:Int),()),())
noncomputable def c_ftKnown:Go.RK.Fn Tryz.prog 177:=mkFn hm0 en0 (by kernel_rfl) [5] [3] (tC (qY (nu 0)) tNil) (tC (qI (nu 0)) tNil) tNil 0 0 (natX_ok c_byIndexByte (nat0_ok _)) [] (by kernel_rfl) (fun x=>f_ftKnown x.1) fun x=>by kernel_rfl
noncomputable def s_ifWithin_0 (s:List (Int)) (f:(Unit × ((Int × Unit) × ((Int × Unit) × Unit)))) (t7:Int) (t8:Int):Option ((List (Int) × ((Unit × ((Int × Unit) × ((Int × Unit) × Unit))) × (Int × (Int × Unit)))) ⊕ (((Unit × ((Int × Unit) × ((Int × Unit) × Unit))) × Unit) ⊕ (Int × ((Unit × ((Int × Unit) × ((Int × Unit) × Unit))) × Unit)))) :=
 bif (ltI t8 t7) then
  bif (inB t8 (List.length s)) then
   bif (ltI (getU (t:=Tm.int) s t8) f.2.1.1) then
    some (.inr (.inr (t8,(((),((f.2.1.1,()),((f.2.2.1.1,()),()))),()))))
   else bif (ltI f.2.2.1.1 (getU (t:=Tm.int) s t8)) then
    some (.inr (.inr (t8,(((),((f.2.1.1,()),((f.2.2.1.1,()),()))),()))))
   else bif (inR (t8+(1:Int))) then
    some (.inl (s,(((),((f.2.1.1,()),((f.2.2.1.1,()),()))),(t7,((t8+(1:Int)),())))))
   else none
  else none
 else some (.inr (.inl (((),((f.2.1.1,()),((f.2.2.1.1,()),()))),())))
noncomputable def l_ifWithin_0:Lp Tryz.prog:=mkLp (P:=Tryz.prog) [0,1,7,8] [33,140,3,3] 2 [0,1] (tC (tRow Tm.int) (tC (tFn 264 tNil (tC (tPtr 0 3 (tC tI tNil)) (tC (tPtr 1 3 (tC tI tNil)) tNil))) (tC tI (tC tI tNil)))) [⟨.exit 0,[1],[140],2,(tC (tFn 264 tNil (tC (tPtr 0 3 (tC tI tNil)) (tC (tPtr 1 3 (tC tI tNil)) tNil))) tNil)⟩,⟨.ret,[4,1],[3,140],2,(tC tI (tC (tFn 264 tNil (tC (tPtr 0 3 (tC tI tNil)) (tC (tPtr 1 3 (tC tI tNil)) tNil))) tNil))⟩] (fun x=>s_ifWithin_0 x.1 x.2.1 x.2.2.1 x.2.2.2.1)
noncomputable def u_ifWithin_0 (s:List (Int)) (f:(Unit × ((Int × Unit) × ((Int × Unit) × Unit)))) (t7:Int) (t8:Int):Nat:=Int.toNat (t7 - t8)+1
noncomputable def k_ifWithin_0:Lk Tryz.prog 219 0:=mkLk hm0 en0 l_ifWithin_0 0 (fun x=>u_ifWithin_0 x.1 x.2.1 x.2.2.1 x.2.2.2.1) (nat0_ok _) [] (by kernel_rfl) fun x=>by kernel_rfl
noncomputable def f_ifWithin (a0:List (Int)) (a1:(Unit × ((Int × Unit) × ((Int × Unit) × Unit)))):Option ((Int × Unit) × Unit) :=
 bnd (lpF l_ifWithin_0.step (u_ifWithin_0 a0 ((),((a1.2.1.1,()),((a1.2.2.1.1,()),()))) (Int.ofNat (List.length a0)) (0:Int)) (a0,(((),((a1.2.1.1,()),((a1.2.2.1.1,()),()))),((Int.ofNat (List.length a0)),((0:Int),()))))) fun y0 =>
 match y0 with
 | .inl y1 =>
  some (((-(1:Int)),()),())
 | .inr y1 =>
  some ((y1.1,()),())
noncomputable def c_ifWithin:Go.RK.Fn Tryz.prog 219:=mkFn hm0 en0 (by kernel_rfl) [33,140] [3] (tC (qR .int (nu 0)) (tC ((fun n=>tFn 264 tNil (tC (tPtr (n 0) 3 (tC tI tNil)) (tC (tPtr (n 1) 3 (tC tI tNil)) tNil))) (nu 0)) tNil)) (tC (qI (nu 2)) tNil) tNil 2 2 (nat0_ok _) [⟨_,k_ifWithin_0⟩] (by kernel_rfl) (fun x=>f_ifWithin x.1 x.2.1) fun x=>by kernel_rfl
noncomputable def f_within (a0:List (Int)) (a1:Int) (a2:Int):Option ((Bool × Unit) × Unit) :=
 bif (leI (Int.ofNat (List.length a0)) (65535:Int)) then
  bnd (f_ifWithin a0 ((),((a1,()),((a2,()),())))) fun y0 =>
  some (((!(leI (0:Int) y0.1.1)),()),())
 else some ((false,()),())
noncomputable def c_within:Go.RK.Fn Tryz.prog 226:=mkFn hm0 en0 (by kernel_rfl) [33,3,3] [4] (tC (qR .int (nu 0)) (tC (qI (nu 0)) (tC (qI (nu 0)) tNil))) (tC (qB (nu 0)) tNil) tNil 0 0 (natX_ok c_ifInt (natX_ok c_ifWithin (nat0_ok _))) [] (by kernel_rfl) (fun x=>f_within x.1 x.2.1 x.2.2.1) fun x=>by kernel_rfl
noncomputable def s_ifCellF_0 (s:List (Cell)) (f:(Unit × Unit)) (t7:Int) (t8:Int):Option ((List (Cell) × ((Unit × Unit) × (Int × (Int × Unit)))) ⊕ (Unit ⊕ (Int × Unit))) :=
 bif (ltI t8 t7) then
  bif (inB t8 (List.length s)) then
   bif (getU (t:=Tm.cell) s t8).null then
    bif (ltI (0:Int) (Int.ofNat (List.length (getU (t:=Tm.cell) s t8).bytes))) then
     some (.inr (.inr (t8,())))
    else bif (ltI (1048576:Int) (Int.ofNat (List.length (getU (t:=Tm.cell) s t8).bytes))) then
     some (.inr (.inr (t8,())))
    else bif (inR (t8+(1:Int))) then
     some (.inl (s,(((),()),(t7,((t8+(1:Int)),())))))
    else none
   else bif (ltI (1048576:Int) (Int.ofNat (List.length (getU (t:=Tm.cell) s t8).bytes))) then
    some (.inr (.inr (t8,())))
   else bif (inR (t8+(1:Int))) then
    some (.inl (s,(((),()),(t7,((t8+(1:Int)),())))))
   else none
  else none
 else some (.inr (.inl ()))
noncomputable def l_ifCellF_0:Lp Tryz.prog:=mkLp (P:=Tryz.prog) [0,1,7,8] [75,194,3,3] 0 [] (tC (tRow Tm.cell) (tC (tFn 265 tNil tNil) (tC tI (tC tI tNil)))) [⟨.exit 0,[],[],0,tNil⟩,⟨.ret,[4],[3],0,(tC tI tNil)⟩] (fun x=>s_ifCellF_0 x.1 x.2.1 x.2.2.1 x.2.2.2.1)
noncomputable def u_ifCellF_0 (s:List (Cell)) (f:(Unit × Unit)) (t7:Int) (t8:Int):Nat:=Int.toNat (t7 - t8)+1
noncomputable def k_ifCellF_0:Lk Tryz.prog 218 0:=mkLk hm0 en0 l_ifCellF_0 0 (fun x=>u_ifCellF_0 x.1 x.2.1 x.2.2.1 x.2.2.2.1) (nat0_ok _) [] (by kernel_rfl) fun x=>by kernel_rfl
noncomputable def f_ifCellF (a0:List (Cell)) (a1:(Unit × Unit)):Option ((Int × Unit) × Unit) :=
 bnd (lpF l_ifCellF_0.step (u_ifCellF_0 a0 ((),()) (Int.ofNat (List.length a0)) (0:Int)) (a0,(((),()),((Int.ofNat (List.length a0)),((0:Int),()))))) fun y0 =>
 match y0 with
 | .inl y1 =>
  some (((-(1:Int)),()),())
 | .inr y1 =>
  some ((y1.1,()),())
noncomputable def c_ifCellF:Go.RK.Fn Tryz.prog 218:=mkFn hm0 en0 (by kernel_rfl) [75,194] [3] (tC (qR .cell (nu 0)) (tC ((fun _=>tFn 265 tNil tNil) (nu 0)) tNil)) (tC (qI (nu 0)) tNil) tNil 0 0 (nat0_ok _) [⟨_,k_ifCellF_0⟩] (by kernel_rfl) (fun x=>f_ifCellF x.1 x.2.1) fun x=>by kernel_rfl
noncomputable def f_ftCells (a0:List (Cell)):Option ((Bool × Unit) × Unit) :=
 bif (leI (Int.ofNat (List.length a0)) (65535:Int)) then
  bnd (f_ifCellF a0 ((),())) fun y0 =>
  some (((!(leI (0:Int) y0.1.1)),()),())
 else some ((false,()),())
noncomputable def c_ftCells:Go.RK.Fn Tryz.prog 227:=mkFn hm0 en0 (by kernel_rfl) [75] [4] (tC (qR .cell (nu 0)) tNil) (tC (qB (nu 0)) tNil) tNil 0 0 (natX_ok c_ifCell (natX_ok c_ifCellF (nat0_ok _))) [] (by kernel_rfl) (fun x=>f_ftCells x.1) fun x=>by kernel_rfl
noncomputable def f_ftWhat (a0:Front):Option ((Bool × Unit) × Unit) :=
 bif decide ((Int.ofNat (UInt8.toNat a0.kind))=(67:Int)) then
  bif decide ((Int.ofNat (UInt8.toNat a0.what))=(83:Int)) then
   some ((true,()),())
  else some ((decide ((Int.ofNat (UInt8.toNat a0.what))=(80:Int)),()),())
 else bif decide ((Int.ofNat (UInt8.toNat a0.kind))=(68:Int)) then
  bif decide ((Int.ofNat (UInt8.toNat a0.what))=(83:Int)) then
   some ((true,()),())
  else some ((decide ((Int.ofNat (UInt8.toNat a0.what))=(80:Int)),()),())
 else some ((decide ((Int.ofNat (UInt8.toNat a0.what))=(0:Int)),()),())
noncomputable def c_ftWhat:Go.RK.Fn Tryz.prog 228:=mkFn hm0 en0 (by kernel_rfl) [119] [4] (tC (qFt (nu 0)) tNil) (tC (qB (nu 0)) tNil) tNil 0 0 (nat0_ok _) [] (by kernel_rfl) (fun x=>f_ftWhat x.1) fun x=>by kernel_rfl
noncomputable def s_ifStr_0 (s:List (Bs)) (f:(Unit × Unit)) (t7:Int) (t8:Int):Option ((List (Bs) × ((Unit × Unit) × (Int × (Int × Unit)))) ⊕ (Unit ⊕ (Int × Unit))) :=
 bif (ltI t8 t7) then
  bif (inB t8 (List.length s)) then
   bnd (f_clean (getU (t:=Tm.str) s t8)) fun y2 =>
   bif (!y2.1.1) then
    some (.inr (.inr (t8,())))
   else bif (inR (t8+(1:Int))) then
    some (.inl (s,(((),()),(t7,((t8+(1:Int)),())))))
   else none
  else none
 else some (.inr (.inl ()))
noncomputable def l_ifStr_0:Lp Tryz.prog:=mkLp (P:=Tryz.prog) [0,1,7,8] [314,104,3,3] 0 [] (tC (tRow Tm.str) (tC (tFn 267 tNil tNil) (tC tI (tC tI tNil)))) [⟨.exit 0,[],[],0,tNil⟩,⟨.ret,[4],[3],0,(tC tI tNil)⟩] (fun x=>s_ifStr_0 x.1 x.2.1 x.2.2.1 x.2.2.2.1)
noncomputable def u_ifStr_0 (s:List (Bs)) (f:(Unit × Unit)) (t7:Int) (t8:Int):Nat:=Int.toNat (t7 - t8)+1
noncomputable def k_ifStr_0:Lk Tryz.prog 281 0:=mkLk hm0 en0 l_ifStr_0 0 (fun x=>u_ifStr_0 x.1 x.2.1 x.2.2.1 x.2.2.2.1) (natX_ok c_clean (nat0_ok _)) [] (by kernel_rfl) fun x=>by kernel_rfl
noncomputable def f_ifStr (a0:List (Bs)) (a1:(Unit × Unit)):Option ((Int × Unit) × Unit) :=
 bnd (lpF l_ifStr_0.step (u_ifStr_0 a0 ((),()) (Int.ofNat (List.length a0)) (0:Int)) (a0,(((),()),((Int.ofNat (List.length a0)),((0:Int),()))))) fun y0 =>
 match y0 with
 | .inl y1 =>
  some (((-(1:Int)),()),())
 | .inr y1 =>
  some ((y1.1,()),())
noncomputable def c_ifStr:Go.RK.Fn Tryz.prog 281:=mkFn hm0 en0 (by kernel_rfl) [314,104] [3] (tC (qR .str (nu 0)) (tC ((fun _=>tFn 267 tNil tNil) (nu 0)) tNil)) (tC (qI (nu 0)) tNil) tNil 0 0 (natX_ok c_clean (nat0_ok _)) [⟨_,k_ifStr_0⟩] (by kernel_rfl) (fun x=>f_ifStr x.1 x.2.1) fun x=>by kernel_rfl
noncomputable def f_ftClean (a0:List (Bs)):Option ((Bool × Unit) × Unit) :=
 bnd (f_ifStr a0 ((),())) fun y0 =>
 some (((!(leI (0:Int) y0.1.1)),()),())
noncomputable def c_ftClean:Go.RK.Fn Tryz.prog 229:=mkFn hm0 en0 (by kernel_rfl) [314] [4] (tC (qR .str (nu 0)) tNil) (tC (qB (nu 0)) tNil) tNil 0 0 (natX_ok c_clean (natX_ok c_ifStr (nat0_ok _))) [] (by kernel_rfl) (fun x=>f_ftClean x.1) fun x=>by kernel_rfl
noncomputable def f_ftAlike (a0:Cell) (a1:Cell):Option ((Bool × Unit) × Unit) :=
 bif decide (a0.null=a1.null) then
  some ((decide (a0.bytes=a1.bytes),()),())
 else some ((false,()),())
noncomputable def c_ftAlike:Go.RK.Fn Tryz.prog 268:=mkFn hm0 en0 (by kernel_rfl) [135,135] [4] (tC (qCe (nu 0)) (tC (qCe (nu 0)) tNil)) (tC (qB (nu 0)) tNil) tNil 0 0 (natX_ok c_byEqual (nat0_ok _)) [] (by kernel_rfl) (fun x=>f_ftAlike x.1 x.2.1) fun x=>by kernel_rfl
noncomputable def s_eqfF_0 (s2:List (Cell)) (eq:(Unit × Unit)) (t15:List (Cell)) (t16:Int) (t17:Int):Option ((List (Cell) × ((Unit × Unit) × (List (Cell) × (Int × (Int × Unit))))) ⊕ (Unit ⊕ (Bool × Unit))) :=
 bif (ltI t17 t16) then
  bif (inB t17 (List.length t15)) then
   bif (inB t17 (List.length s2)) then
    bnd (f_ftAlike (getU (t:=Tm.cell) t15 t17) (getU (t:=Tm.cell) s2 t17)) fun y2 =>
    bif (!y2.1.1) then
     some (.inr (.inr (false,())))
    else bif (inR (t17+(1:Int))) then
     some (.inl (s2,(((),()),(t15,(t16,((t17+(1:Int)),()))))))
    else none
   else none
  else none
 else some (.inr (.inl ()))
noncomputable def l_eqfF_0:Lp Tryz.prog:=mkLp (P:=Tryz.prog) [1,2,15,16,17] [75,258,75,3,3] 0 [] (tC (tRow Tm.cell) (tC (tFn 268 tNil tNil) (tC (tRow Tm.cell) (tC tI (tC tI tNil))))) [⟨.exit 0,[],[],0,tNil⟩,⟨.ret,[6],[4],0,(tC tBool tNil)⟩] (fun x=>s_eqfF_0 x.1 x.2.1 x.2.2.1 x.2.2.2.1 x.2.2.2.2.1)
noncomputable def u_eqfF_0 (s2:List (Cell)) (eq:(Unit × Unit)) (t15:List (Cell)) (t16:Int) (t17:Int):Nat:=Int.toNat (t16 - t17)+1
noncomputable def k_eqfF_0:Lk Tryz.prog 173 0:=mkLk hm0 en0 l_eqfF_0 0 (fun x=>u_eqfF_0 x.1 x.2.1 x.2.2.1 x.2.2.2.1 x.2.2.2.2.1) (natX_ok c_ftAlike (nat0_ok _)) [] (by kernel_rfl) fun x=>by kernel_rfl
noncomputable def f_eqfF (a0:List (Cell)) (a1:List (Cell)) (a2:(Unit × Unit)):Option ((Bool × Unit) × Unit) :=
 bif (!decide ((Int.ofNat (List.length a0))=(Int.ofNat (List.length a1)))) then
  some ((false,()),())
 else bnd (lpF l_eqfF_0.step (u_eqfF_0 a1 ((),()) a0 (Int.ofNat (List.length a0)) (0:Int)) (a1,(((),()),(a0,((Int.ofNat (List.length a0)),((0:Int),())))))) fun y0 =>
 match y0 with
 | .inl y1 =>
  some ((true,()),())
 | .inr y1 =>
  some ((y1.1,()),())
noncomputable def c_eqfF:Go.RK.Fn Tryz.prog 173:=mkFn hm0 en0 (by kernel_rfl) [75,75,258] [4] (tC (qR .cell (nu 0)) (tC (qR .cell (nu 0)) (tC ((fun _=>tFn 268 tNil tNil) (nu 0)) tNil))) (tC (qB (nu 0)) tNil) tNil 0 0 (natX_ok c_ftAlike (nat0_ok _)) [⟨_,k_eqfF_0⟩] (by kernel_rfl) (fun x=>f_eqfF x.1 x.2.1 x.2.2.1) fun x=>by kernel_rfl
noncomputable def f_ftSame (a0:Front) (a1:Front):Option ((Bool × Unit) × Unit) :=
 bnd (f_eqInt a0.oids a1.oids) fun y0 =>
 bif y0.1.1 then
  bnd (f_eqInt a0.formats a1.formats) fun y1 =>
  bif y1.1.1 then
   bnd (f_eqInt a0.results a1.results) fun y2 =>
   bif decide ((Int.ofNat (UInt8.toNat a0.kind))=(Int.ofNat (UInt8.toNat a1.kind))) then
    bif decide ((Int.ofNat (UInt8.toNat a0.what))=(Int.ofNat (UInt8.toNat a1.what))) then
     bif decide (a0.max=a1.max) then
      bif (decide (a0.name=a1.name) && (decide (a0.portal=a1.portal) && (decide (a0.text=a1.text) && true))) then
       bif y2.1.1 then
        bnd (f_eqfF a0.params a1.params ((),())) fun y3 =>
        some ((y3.1.1,()),())
       else some ((false,()),())
      else some ((false,()),())
     else some ((false,()),())
    else some ((false,()),())
   else some ((false,()),())
  else bif decide ((Int.ofNat (UInt8.toNat a0.kind))=(Int.ofNat (UInt8.toNat a1.kind))) then
   bif decide ((Int.ofNat (UInt8.toNat a0.what))=(Int.ofNat (UInt8.toNat a1.what))) then
    bif decide (a0.max=a1.max) then
     bif (decide (a0.name=a1.name) && (decide (a0.portal=a1.portal) && (decide (a0.text=a1.text) && true))) then
      some ((false,()),())
     else some ((false,()),())
    else some ((false,()),())
   else some ((false,()),())
  else some ((false,()),())
 else bif decide ((Int.ofNat (UInt8.toNat a0.kind))=(Int.ofNat (UInt8.toNat a1.kind))) then
  bif decide ((Int.ofNat (UInt8.toNat a0.what))=(Int.ofNat (UInt8.toNat a1.what))) then
   bif decide (a0.max=a1.max) then
    bif (decide (a0.name=a1.name) && (decide (a0.portal=a1.portal) && (decide (a0.text=a1.text) && true))) then
     some ((false,()),())
    else some ((false,()),())
   else some ((false,()),())
  else some ((false,()),())
 else some ((false,()),())
noncomputable def c_ftSame:Go.RK.Fn Tryz.prog 230:=mkFn hm0 en0 (by kernel_rfl) [119,119] [4] (tC (qFt (nu 0)) (tC (qFt (nu 0)) tNil)) (tC (qB (nu 0)) tNil) tNil 0 0 (natX_ok c_eqInt (natX_ok c_eqfB (natX_ok c_eqfF (natX_ok c_ftAlike (nat0_ok _))))) [] (by kernel_rfl) (fun x=>f_ftSame x.1 x.2.1) fun x=>by kernel_rfl
noncomputable def f_ftOf (a0:Front):Option ((Front × Unit) × Unit) :=
 bif decide ((Int.ofNat (UInt8.toNat a0.kind))=(80:Int)) then
  some (((Front.mk a0.kind (UInt8.ofNat 0) a0.name ([]:Bs) a0.text a0.oids ([]:List (Int)) ([]:List (Int)) ([]:List (Cell)) (0:Int)),()),())
 else bif decide ((Int.ofNat (UInt8.toNat a0.kind))=(66:Int)) then
  some (({ a0 with what:=(UInt8.ofNat 0),text:=([]:Bs),oids:=([]:List (Int)),max:=(0:Int) },()),())
 else bif decide ((Int.ofNat (UInt8.toNat a0.kind))=(67:Int)) then
  bif decide ((Int.ofNat (UInt8.toNat a0.what))=(83:Int)) then
   some (((Front.mk a0.kind a0.what a0.name ([]:Bs) ([]:Bs) ([]:List (Int)) ([]:List (Int)) ([]:List (Int)) ([]:List (Cell)) (0:Int)),()),())
  else bif decide ((Int.ofNat (UInt8.toNat a0.what))=(80:Int)) then
   some (((Front.mk a0.kind a0.what ([]:Bs) a0.portal ([]:Bs) ([]:List (Int)) ([]:List (Int)) ([]:List (Int)) ([]:List (Cell)) (0:Int)),()),())
  else some (((Front.mk a0.kind a0.what ([]:Bs) ([]:Bs) ([]:Bs) ([]:List (Int)) ([]:List (Int)) ([]:List (Int)) ([]:List (Cell)) (0:Int)),()),())
 else bif decide ((Int.ofNat (UInt8.toNat a0.kind))=(68:Int)) then
  bif decide ((Int.ofNat (UInt8.toNat a0.what))=(83:Int)) then
   some (((Front.mk a0.kind a0.what a0.name ([]:Bs) ([]:Bs) ([]:List (Int)) ([]:List (Int)) ([]:List (Int)) ([]:List (Cell)) (0:Int)),()),())
  else bif decide ((Int.ofNat (UInt8.toNat a0.what))=(80:Int)) then
   some (((Front.mk a0.kind a0.what ([]:Bs) a0.portal ([]:Bs) ([]:List (Int)) ([]:List (Int)) ([]:List (Int)) ([]:List (Cell)) (0:Int)),()),())
  else some (((Front.mk a0.kind a0.what ([]:Bs) ([]:Bs) ([]:Bs) ([]:List (Int)) ([]:List (Int)) ([]:List (Int)) ([]:List (Cell)) (0:Int)),()),())
 else bif decide ((Int.ofNat (UInt8.toNat a0.kind))=(69:Int)) then
  some (((Front.mk a0.kind (UInt8.ofNat 0) ([]:Bs) a0.portal ([]:Bs) ([]:List (Int)) ([]:List (Int)) ([]:List (Int)) ([]:List (Cell)) a0.max),()),())
 else bif decide ((Int.ofNat (UInt8.toNat a0.kind))=(81:Int)) then
  some (((Front.mk a0.kind (UInt8.ofNat 0) ([]:Bs) ([]:Bs) a0.text ([]:List (Int)) ([]:List (Int)) ([]:List (Int)) ([]:List (Cell)) (0:Int)),()),())
 else some (((Front.mk a0.kind (UInt8.ofNat 0) ([]:Bs) ([]:Bs) ([]:Bs) ([]:List (Int)) ([]:List (Int)) ([]:List (Int)) ([]:List (Cell)) (0:Int)),()),())
noncomputable def c_ftOf:Go.RK.Fn Tryz.prog 231:=mkFn hm0 en0 (by kernel_rfl) [119] [119] (tC (qFt (nu 0)) tNil) (tC (qFt (nu 0)) tNil) tNil 0 0 (nat0_ok _) [] (by kernel_rfl) (fun x=>f_ftOf x.1) fun x=>by kernel_rfl
noncomputable def f_ftCheck (a0:Front):Option ((Int × Unit) × Unit) :=
 bnd (f_ftKnown a0.kind) fun y0 =>
 bif (!decide (y0.1.1=(1:Int))) then
  some (((9:Int),()),())
 else bnd (f_within a0.oids (0:Int) (4294967295:Int)) fun y1 =>
 bif y1.1.1 then
  bnd (f_within a0.formats (0:Int) (65535:Int)) fun y2 =>
  bif y2.1.1 then
   bnd (f_within a0.results (0:Int) (65535:Int)) fun y3 =>
   bif y3.1.1 then
    bnd (f_ftCells a0.params) fun y4 =>
    bnd (f_ftWhat a0) fun y5 =>
    bif (!y5.1.1) then
     some (((1:Int),()),())
    else bif (!y4.1.1) then
     some (((1:Int),()),())
    else bnd (f_ftClean [a0.name,a0.portal,a0.text]) fun y6 =>
    bif (!y6.1.1) then
     some (((1:Int),()),())
    else bif (ltI a0.max (-(2147483648:Int))) then
     some (((1:Int),()),())
    else bif (leI (2147483648:Int) a0.max) then
     some (((1:Int),()),())
    else bnd (f_ftOf a0) fun y7 =>
    bnd (f_ftSame a0 y7.1.1) fun y8 =>
    bif (!y8.1.1) then
     some (((1:Int),()),())
    else some (((0:Int),()),())
   else bnd (f_ftWhat a0) fun y9 =>
   bif (!y9.1.1) then
    some (((1:Int),()),())
   else some (((1:Int),()),())
  else bnd (f_ftWhat a0) fun y10 =>
  bif (!y10.1.1) then
   some (((1:Int),()),())
  else some (((1:Int),()),())
 else bnd (f_ftWhat a0) fun y11 =>
 bif (!y11.1.1) then
  some (((1:Int),()),())
 else some (((1:Int),()),())
noncomputable def c_ftCheck:Go.RK.Fn Tryz.prog 181:=mkFn hm0 en0 (by kernel_rfl) [119] [49] (tC (qFt (nu 0)) tNil) (tC (qI (nu 0)) tNil) tNil 0 0 (natX_ok c_ftKnown (natX_ok c_within (natX_ok c_ftCells (natX_ok c_ftWhat (natX_ok c_ftClean (natX_ok c_ftSame (natX_ok c_ftOf (nat0_ok _)))))))) [] (by kernel_rfl) (fun x=>f_ftCheck x.1) fun x=>by kernel_rfl
noncomputable def s_ftList_0 (size:Int) (r:(Scan × Unit)) (out:List (Int)) (n:Int):Option ((Int × ((Scan × Unit) × (List (Int) × (Int × Unit)))) ⊕ (List (Int) × ((Scan × Unit) × Unit))) :=
 bif (ltI (0:Int) n) then
  bnd (f_scBad r.1) fun y3 =>
  bif (!y3.1.1) then
   bnd (f_scNum y3.2.1 size) fun y4 =>
   bif (Nat.ble (((List.length out)+(List.length [y4.1.1])) * (8:Nat)) (140737488355328:Nat)) then
    bif (inR (n - (1:Int))) then
     some (.inl (size,((y4.2.1,()),((out++[y4.1.1]),((n - (1:Int)),())))))
    else none
   else none
  else some (.inr (out,((y3.2.1,()),())))
 else some (.inr (out,((r.1,()),())))
noncomputable def l_ftList_0:Lp Tryz.prog:=mkLp (P:=Tryz.prog) [1,2,5,6] [3,0,33,3] 3 [0,1] (tC tI (tC (tPtr 0 263 (tC (qSc (nl [1])) tNil)) (tC (tOwn 2 Tm.int 3) (tC tI tNil)))) [⟨.exit 0,[5,2],[33,0],4,(tC (tOwn 3 Tm.int 3) (tC (tPtr 0 263 (tC (qSc (nl [1])) tNil)) tNil))⟩] (fun x=>s_ftList_0 x.1 x.2.1 x.2.2.1 x.2.2.2.1)
noncomputable def u_ftList_0 (size:Int) (r:(Scan × Unit)) (out:List (Int)) (n:Int):Nat:=Int.toNat (n - (0:Int))+1
noncomputable def k_ftList_0:Lk Tryz.prog 222 0:=mkLk hm0 en0 l_ftList_0 0 (fun x=>u_ftList_0 x.1 x.2.1 x.2.2.1 x.2.2.2.1) (natX_ok c_scNum (natX_ok c_scBad (nat0_ok _))) [] (by kernel_rfl) fun x=>by kernel_rfl
noncomputable def f_ftList (a0:Scan) (a1:Int):Option ((List (Int) × Unit) × (Scan × Unit)) :=
 bnd (f_scNum a0 (2:Int)) fun y0 =>
 bnd (lpF l_ftList_0.step (u_ftList_0 a1 (y0.2.1,()) ([]:List (Int)) y0.1.1) (a1,((y0.2.1,()),(([]:List (Int)),(y0.1.1,()))))) fun y1 =>
 some ((y1.1,()),(y1.2.1.1,()))
noncomputable def c_ftList:Go.RK.Fn Tryz.prog 222:=mkFn hm0 en0 (by kernel_rfl) [263,3] [33] (tC (qRd (nu 0)) (tC (qI (nu 1)) tNil)) (tC (qO .int 3 (nu 1)) tNil) (tC (qSc (nl [0])) tNil) 1 2 (natX_ok c_scNum (natX_ok c_scBad (nat0_ok _))) [⟨_,k_ftList_0⟩] (by kernel_rfl) (fun x=>f_ftList x.1 x.2.1) fun x=>by kernel_rfl
noncomputable def s_ftRow_0 (r:(Scan × Unit)) (out:List (Cell)) (n:Int):Option (((Scan × Unit) × (List (Cell) × (Int × Unit))) ⊕ (List (Cell) × ((Scan × Unit) × Unit))) :=
 bif (ltI (0:Int) n) then
  bnd (f_scBad r.1) fun y4 =>
  bif (!y4.1.1) then
   bnd (f_scNum y4.2.1 (4:Int)) fun y5 =>
   bif decide (y5.1.1=(4294967295:Int)) then
    bif (Nat.ble (((List.length out)+(List.length [(Cell.mk true ([]:Bs))])) * (32:Nat)) (140737488355328:Nat)) then
     bif (inR (n - (1:Int))) then
      some (.inl ((y5.2.1,()),((out++[(Cell.mk true ([]:Bs))]),((n - (1:Int)),()))))
     else none
    else none
   else bnd (f_scTake y5.2.1 y5.1.1) fun y6 =>
   bif (Nat.ble (((List.length out)+(List.length [(Cell.mk false y6.1.1)])) * (32:Nat)) (140737488355328:Nat)) then
    bif (inR (n - (1:Int))) then
     some (.inl ((y6.2.1,()),((out++[(Cell.mk false y6.1.1)]),((n - (1:Int)),()))))
    else none
   else none
  else some (.inr (out,((y4.2.1,()),())))
 else some (.inr (out,((r.1,()),())))
noncomputable def l_ftRow_0:Lp Tryz.prog:=mkLp (P:=Tryz.prog) [1,3,4] [0,75,3] 3 [0,1] (tC (tPtr 0 263 (tC (qSc (nl [1])) tNil)) (tC (tOwn 2 Tm.cell 135) (tC tI tNil))) [⟨.exit 0,[3,1],[75,0],4,(tC (tOwn 3 Tm.cell 135) (tC (tPtr 0 263 (tC (qSc (nl [1])) tNil)) tNil))⟩] (fun x=>s_ftRow_0 x.1 x.2.1 x.2.2.1)
noncomputable def u_ftRow_0 (r:(Scan × Unit)) (out:List (Cell)) (n:Int):Nat:=Int.toNat (n - (0:Int))+1
noncomputable def k_ftRow_0:Lk Tryz.prog 223 0:=mkLk hm0 en0 l_ftRow_0 0 (fun x=>u_ftRow_0 x.1 x.2.1 x.2.2.1) (natX_ok c_scNum (natX_ok c_scBad (natX_ok c_scTake (nat0_ok _)))) [] (by kernel_rfl) fun x=>by kernel_rfl
noncomputable def f_ftRow (a0:Scan):Option ((List (Cell) × Unit) × (Scan × Unit)) :=
 bnd (f_scNum a0 (2:Int)) fun y0 =>
 bnd (lpF l_ftRow_0.step (u_ftRow_0 (y0.2.1,()) ([]:List (Cell)) y0.1.1) ((y0.2.1,()),(([]:List (Cell)),(y0.1.1,())))) fun y1 =>
 some ((y1.1,()),(y1.2.1.1,()))
noncomputable def c_ftRow:Go.RK.Fn Tryz.prog 223:=mkFn hm0 en0 (by kernel_rfl) [263] [75] (tC (qRd (nu 0)) tNil) (tC (qO .cell 135 (nu 1)) tNil) (tC (qSc (nl [0])) tNil) 1 2 (natX_ok c_scNum (natX_ok c_scBad (natX_ok c_scTake (nat0_ok _)))) [⟨_,k_ftRow_0⟩] (by kernel_rfl) (fun x=>f_ftRow x.1) fun x=>by kernel_rfl
end Go.Proofs.YtjgeofdgdlmcoaaGreatDoor
namespace Go.Proofs.YtjgeofdgdlmcoaaGreatDoor
open Go Go.RK
open Go.RK.Uni (Ty El)
open Go.RK.Byt (bT)
theorem t_scNew (a0:List (UInt8)) (h0:a0.length≤1000000):Tt (f_scNew a0) fun y=>y.1.1.rest=a0∧y.1.1.bad=false∧y.1.1.made=true:=by
 unfold f_scNew
 try dsimp only [El_by]
 refine Tt.bnd (t_bClone _ (by grind)) fun (y0:List (UInt8)) hy0=>?_
 exact Tt.ret (by grind)
theorem t_scGood (a0:Scan):Tt (f_scGood a0) fun y=>y.2.1=a0∧(y.1.1=true→a0.made=true∧a0.bad=false):=by
 unfold f_scGood
 refine Tt.bif (fun h=>?_) (fun h=>?_)
 exact Tt.ret (by grind)
 exact Tt.ret (by grind)
theorem t_scText (a0:Scan) (h0:a0.rest.length≤1000000):Tt (f_scText a0) fun y=>y.2.1.made=a0.made∧y.1.1.length+y.2.1.rest.length≤a0.rest.length∧(y.2.1.bad=false→a0.bad=false):=by
 unfold f_scText
 refine Tt.bnd (t_scGood _) fun y0 hy0=>?_
 refine Tt.bif (fun h=>?_) (fun h=>?_)
 exact Tt.ret (by grind)
 refine Tt.bnd (t_byIndexByte _ _) fun y1 hy1=>?_
 refine Tt.bif (fun h=>?_) (fun h=>?_)
 exact Tt.ret (by grind)
 refine Tt.ok (by grind) ?_
 refine Tt.bnd (t_scCut _ _ (by grind)) fun y2 hy2=>?_
 refine Tt.ok (by grind) ?_
 exact Tt.ret (by grind)
theorem t_ftKnown (a0:UInt8):Tt (f_ftKnown a0) fun y=>True:=by
 unfold f_ftKnown
 refine Tt.bnd (t_byIndexByte _ _) fun y0 hy0=>?_
 refine Tt.bif (fun h=>?_) (fun h=>?_)
 exact Tt.ret (by grind)
 refine Tt.bnd (t_byIndexByte _ _) fun y1 hy1=>?_
 refine Tt.bif (fun h=>?_) (fun h=>?_)
 exact Tt.ret (by grind)
 exact Tt.ret (by grind)
theorem st_ifWithin_0 (s:List (Int)) (f:(Unit × ((Int × Unit) × ((Int × Unit) × Unit)))) (t7:Int) (t8:Int) (h0:0≤t8∧t8≤t7∧t7≤1000000) (h1:t7≤(s.length:Int)):Tt (s_ifWithin_0 s f t7 t8) fun r=>match r with | .inl (s',f',t7',t8',_)=>((0≤t8'∧t8'≤t7'∧t7'≤1000000)∧(t7'≤(s'.length:Int)))∧(t7' - t8').toNat < (t7 - t8).toNat | .inr y=>True:=by
 unfold s_ifWithin_0
 try dsimp only [El_int]
 refine Tt.bif (fun h=>?_) (fun h=>?_)
 refine Tt.ok (by grind) ?_
 refine Tt.bif (fun h=>?_) (fun h=>?_)
 exact Tt.ret (by grind)
 refine Tt.bif (fun h=>?_) (fun h=>?_)
 exact Tt.ret (by grind)
 refine Tt.ok (by grind) ?_
 exact Tt.ret (by grind)
 exact Tt.ret (by grind)
theorem lt_ifWithin_0 (s:List (Int)) (f:(Unit × ((Int × Unit) × ((Int × Unit) × Unit)))) (t7:Int) (t8:Int) (h0:0≤t8∧t8≤t7∧t7≤1000000) (h1:t7≤(s.length:Int)):Tt (α:=(((Unit × ((Int × Unit) × ((Int × Unit) × Unit))) × Unit) ⊕ (Int × ((Unit × ((Int × Unit) × ((Int × Unit) × Unit))) × Unit)))) (lpF l_ifWithin_0.step (u_ifWithin_0 s f t7 t8) (s,(f,(t7,(t8,()))))) fun y=>True:=by
 refine Tt.lp (fun x=>(0≤x.2.2.2.1∧x.2.2.2.1≤x.2.2.1∧x.2.2.1≤1000000)∧(x.2.2.1≤(x.1.length:Int))) (fun x=>(x.2.2.1 - x.2.2.2.1).toNat) (fun x h=>(st_ifWithin_0 x.1 x.2.1 x.2.2.1 x.2.2.2.1 h.1 h.2).mono fun r hr=>?_) (by exact ⟨h0,h1⟩) (by unfold u_ifWithin_0;grind)
 rcases r with r | r <;> exact hr
theorem t_ifWithin (a0:List (Int)) (a1:(Unit × ((Int × Unit) × ((Int × Unit) × Unit)))) (h0:a0.length≤1000000):Tt (f_ifWithin a0 a1) fun y=>True:=by
 unfold f_ifWithin
 refine Tt.bnd (lt_ifWithin_0 _ _ _ _ (by grind) (by grind)) fun (y0:(((Unit × ((Int × Unit) × ((Int × Unit) × Unit))) × Unit) ⊕ (Int × ((Unit × ((Int × Unit) × ((Int × Unit) × Unit))) × Unit)))) hy0=>?_
 rcases y0 with y1 | y1
 exact Tt.ret (by grind)
 exact Tt.ret (by grind)
theorem t_within (a0:List (Int)) (a1:Int) (a2:Int):Tt (f_within a0 a1 a2) fun y=>True:=by
 unfold f_within
 refine Tt.bif (fun h=>?_) (fun h=>?_)
 refine Tt.bnd (t_ifWithin _ _ (by grind)) fun y0 hy0=>?_
 exact Tt.ret (by grind)
 exact Tt.ret (by grind)
theorem st_ifCellF_0 (s:List (Cell)) (f:(Unit × Unit)) (t7:Int) (t8:Int) (h0:0≤t8∧t8≤t7∧t7≤1000000) (h1:t7≤(s.length:Int)):Tt (s_ifCellF_0 s f t7 t8) fun r=>match r with | .inl (s',f',t7',t8',_)=>((0≤t8'∧t8'≤t7'∧t7'≤1000000)∧(t7'≤(s'.length:Int)))∧(t7' - t8').toNat < (t7 - t8).toNat | .inr y=>True:=by
 unfold s_ifCellF_0
 try dsimp only [El_cell]
 refine Tt.bif (fun h=>?_) (fun h=>?_)
 refine Tt.ok (by grind) ?_
 refine Tt.bif (fun h=>?_) (fun h=>?_)
 refine Tt.bif (fun h=>?_) (fun h=>?_)
 exact Tt.ret (by grind)
 refine Tt.bif (fun h=>?_) (fun h=>?_)
 exact Tt.ret (by grind)
 refine Tt.ok (by grind) ?_
 exact Tt.ret (by grind)
 refine Tt.bif (fun h=>?_) (fun h=>?_)
 exact Tt.ret (by grind)
 refine Tt.ok (by grind) ?_
 exact Tt.ret (by grind)
 exact Tt.ret (by grind)
theorem lt_ifCellF_0 (s:List (Cell)) (f:(Unit × Unit)) (t7:Int) (t8:Int) (h0:0≤t8∧t8≤t7∧t7≤1000000) (h1:t7≤(s.length:Int)):Tt (α:=(Unit ⊕ (Int × Unit))) (lpF l_ifCellF_0.step (u_ifCellF_0 s f t7 t8) (s,(f,(t7,(t8,()))))) fun y=>True:=by
 refine Tt.lp (fun x=>(0≤x.2.2.2.1∧x.2.2.2.1≤x.2.2.1∧x.2.2.1≤1000000)∧(x.2.2.1≤(x.1.length:Int))) (fun x=>(x.2.2.1 - x.2.2.2.1).toNat) (fun x h=>(st_ifCellF_0 x.1 x.2.1 x.2.2.1 x.2.2.2.1 h.1 h.2).mono fun r hr=>?_) (by exact ⟨h0,h1⟩) (by unfold u_ifCellF_0;grind)
 rcases r with r | r <;> exact hr
theorem t_ifCellF (a0:List (Cell)) (a1:(Unit × Unit)) (h0:a0.length≤1000000):Tt (f_ifCellF a0 a1) fun y=>True:=by
 unfold f_ifCellF
 refine Tt.bnd (lt_ifCellF_0 _ _ _ _ (by grind) (by grind)) fun (y0:(Unit ⊕ (Int × Unit))) hy0=>?_
 rcases y0 with y1 | y1
 exact Tt.ret (by grind)
 exact Tt.ret (by grind)
theorem t_ftCells (a0:List (Cell)):Tt (f_ftCells a0) fun y=>True:=by
 unfold f_ftCells
 refine Tt.bif (fun h=>?_) (fun h=>?_)
 refine Tt.bnd (t_ifCellF _ _ (by grind)) fun y0 hy0=>?_
 exact Tt.ret (by grind)
 exact Tt.ret (by grind)
theorem t_ftWhat (a0:Front):Tt (f_ftWhat a0) fun y=>True:=by
 unfold f_ftWhat
 refine Tt.bif (fun h=>?_) (fun h=>?_)
 refine Tt.bif (fun h=>?_) (fun h=>?_)
 exact Tt.ret (by grind)
 exact Tt.ret (by grind)
 refine Tt.bif (fun h=>?_) (fun h=>?_)
 refine Tt.bif (fun h=>?_) (fun h=>?_)
 exact Tt.ret (by grind)
 exact Tt.ret (by grind)
 exact Tt.ret (by grind)
theorem st_ifStr_0 (s:List (List (UInt8))) (f:(Unit × Unit)) (t7:Int) (t8:Int) (h0:0≤t8∧t8≤t7∧t7≤1000000) (h1:t7≤(s.length:Int)):Tt (s_ifStr_0 s f t7 t8) fun r=>match r with | .inl (s',f',t7',t8',_)=>((0≤t8'∧t8'≤t7'∧t7'≤1000000)∧(t7'≤(s'.length:Int)))∧(t7' - t8').toNat < (t7 - t8).toNat | .inr y=>True:=by
 unfold s_ifStr_0
 try dsimp only [El_str]
 refine Tt.bif (fun h=>?_) (fun h=>?_)
 refine Tt.ok (by grind) ?_
 refine Tt.bnd (t_clean _) fun y2 hy2=>?_
 refine Tt.bif (fun h=>?_) (fun h=>?_)
 exact Tt.ret (by grind)
 refine Tt.ok (by grind) ?_
 exact Tt.ret (by grind)
 exact Tt.ret (by grind)
theorem lt_ifStr_0 (s:List (List (UInt8))) (f:(Unit × Unit)) (t7:Int) (t8:Int) (h0:0≤t8∧t8≤t7∧t7≤1000000) (h1:t7≤(s.length:Int)):Tt (α:=(Unit ⊕ (Int × Unit))) (lpF l_ifStr_0.step (u_ifStr_0 s f t7 t8) (s,(f,(t7,(t8,()))))) fun y=>True:=by
 refine Tt.lp (fun x=>(0≤x.2.2.2.1∧x.2.2.2.1≤x.2.2.1∧x.2.2.1≤1000000)∧(x.2.2.1≤(x.1.length:Int))) (fun x=>(x.2.2.1 - x.2.2.2.1).toNat) (fun x h=>(st_ifStr_0 x.1 x.2.1 x.2.2.1 x.2.2.2.1 h.1 h.2).mono fun r hr=>?_) (by exact ⟨h0,h1⟩) (by unfold u_ifStr_0;grind)
 rcases r with r | r <;> exact hr
theorem t_ifStr (a0:List (List (UInt8))) (a1:(Unit × Unit)) (h0:a0.length≤1000000):Tt (f_ifStr a0 a1) fun y=>True:=by
 unfold f_ifStr
 refine Tt.bnd (lt_ifStr_0 _ _ _ _ (by grind) (by grind)) fun (y0:(Unit ⊕ (Int × Unit))) hy0=>?_
 rcases y0 with y1 | y1
 exact Tt.ret (by grind)
 exact Tt.ret (by grind)
theorem t_ftClean (a0:List (List (UInt8))) (h0:a0.length≤1000000):Tt (f_ftClean a0) fun y=>True:=by
 unfold f_ftClean
 refine Tt.bnd (t_ifStr _ _ (by grind)) fun y0 hy0=>?_
 exact Tt.ret (by grind)
theorem t_ftAlike (a0:Cell) (a1:Cell):Tt (f_ftAlike a0 a1) fun y=>True:=by
 unfold f_ftAlike
 refine Tt.bif (fun h=>?_) (fun h=>?_)
 exact Tt.ret (by grind)
 exact Tt.ret (by grind)
theorem st_eqfF_0 (s2:List (Cell)) (eq:(Unit × Unit)) (t15:List (Cell)) (t16:Int) (t17:Int) (h0:0≤t17∧t17≤t16∧t16≤1000000) (h1:t16≤(t15.length:Int)) (h2:t16≤(s2.length:Int)):Tt (s_eqfF_0 s2 eq t15 t16 t17) fun r=>match r with | .inl (s2',eq',t15',t16',t17',_)=>((0≤t17'∧t17'≤t16'∧t16'≤1000000)∧(t16'≤(t15'.length:Int))∧(t16'≤(s2'.length:Int)))∧(t16' - t17').toNat < (t16 - t17).toNat | .inr y=>True:=by
 unfold s_eqfF_0
 try dsimp only [El_cell]
 refine Tt.bif (fun h=>?_) (fun h=>?_)
 refine Tt.ok (by grind) ?_
 refine Tt.ok (by grind) ?_
 refine Tt.bnd (t_ftAlike _ _) fun y2 hy2=>?_
 refine Tt.bif (fun h=>?_) (fun h=>?_)
 exact Tt.ret (by grind)
 refine Tt.ok (by grind) ?_
 exact Tt.ret (by grind)
 exact Tt.ret (by grind)
theorem lt_eqfF_0 (s2:List (Cell)) (eq:(Unit × Unit)) (t15:List (Cell)) (t16:Int) (t17:Int) (h0:0≤t17∧t17≤t16∧t16≤1000000) (h1:t16≤(t15.length:Int)) (h2:t16≤(s2.length:Int)):Tt (α:=(Unit ⊕ (Bool × Unit))) (lpF l_eqfF_0.step (u_eqfF_0 s2 eq t15 t16 t17) (s2,(eq,(t15,(t16,(t17,())))))) fun y=>True:=by
 refine Tt.lp (fun x=>(0≤x.2.2.2.2.1∧x.2.2.2.2.1≤x.2.2.2.1∧x.2.2.2.1≤1000000)∧(x.2.2.2.1≤(x.2.2.1.length:Int))∧(x.2.2.2.1≤(x.1.length:Int))) (fun x=>(x.2.2.2.1 - x.2.2.2.2.1).toNat) (fun x h=>(st_eqfF_0 x.1 x.2.1 x.2.2.1 x.2.2.2.1 x.2.2.2.2.1 h.1 h.2.1 h.2.2).mono fun r hr=>?_) (by exact ⟨h0,h1,h2⟩) (by unfold u_eqfF_0;grind)
 rcases r with r | r <;> exact hr
theorem t_eqfF (a0:List (Cell)) (a1:List (Cell)) (a2:(Unit × Unit)) (h0:a0.length≤1000000) (h1:a1.length≤1000000):Tt (f_eqfF a0 a1 a2) fun y=>True:=by
 unfold f_eqfF
 refine Tt.bif (fun h=>?_) (fun h=>?_)
 exact Tt.ret (by grind)
 refine Tt.bnd (lt_eqfF_0 _ _ _ _ _ (by grind) (by grind) (by grind)) fun (y0:(Unit ⊕ (Bool × Unit))) hy0=>?_
 rcases y0 with y1 | y1
 exact Tt.ret (by grind)
 exact Tt.ret (by grind)
theorem t_ftSame (a0:Front) (a1:Front) (h0:FrontB a0) (h1:FrontB a1):Tt (f_ftSame a0 a1) fun y=>True:=by
 unfold f_ftSame
 refine Tt.bnd (t_eqInt _ _ (by grind) (by grind)) fun y0 hy0=>?_
 refine Tt.bif (fun h=>?_) (fun h=>?_)
 refine Tt.bnd (t_eqInt _ _ (by grind) (by grind)) fun y1 hy1=>?_
 refine Tt.bif (fun h=>?_) (fun h=>?_)
 refine Tt.bnd (t_eqInt _ _ (by grind) (by grind)) fun y2 hy2=>?_
 refine Tt.bif (fun h=>?_) (fun h=>?_)
 refine Tt.bif (fun h=>?_) (fun h=>?_)
 refine Tt.bif (fun h=>?_) (fun h=>?_)
 refine Tt.bif (fun h=>?_) (fun h=>?_)
 refine Tt.bif (fun h=>?_) (fun h=>?_)
 refine Tt.bnd (t_eqfF _ _ _ (by grind) (by grind)) fun y3 hy3=>?_
 exact Tt.ret (by grind)
 exact Tt.ret (by grind)
 exact Tt.ret (by grind)
 exact Tt.ret (by grind)
 exact Tt.ret (by grind)
 exact Tt.ret (by grind)
 refine Tt.bif (fun h=>?_) (fun h=>?_)
 refine Tt.bif (fun h=>?_) (fun h=>?_)
 refine Tt.bif (fun h=>?_) (fun h=>?_)
 refine Tt.bif (fun h=>?_) (fun h=>?_)
 exact Tt.ret (by grind)
 exact Tt.ret (by grind)
 exact Tt.ret (by grind)
 exact Tt.ret (by grind)
 exact Tt.ret (by grind)
 refine Tt.bif (fun h=>?_) (fun h=>?_)
 refine Tt.bif (fun h=>?_) (fun h=>?_)
 refine Tt.bif (fun h=>?_) (fun h=>?_)
 refine Tt.bif (fun h=>?_) (fun h=>?_)
 exact Tt.ret (by grind)
 exact Tt.ret (by grind)
 exact Tt.ret (by grind)
 exact Tt.ret (by grind)
 exact Tt.ret (by grind)
theorem t_ftOf (a0:Front) (h0:FrontB a0):Tt (f_ftOf a0) fun y=>FrontB y.1.1:=by
 unfold f_ftOf
 refine Tt.bif (fun h=>?_) (fun h=>?_)
 exact Tt.ret (by grind)
 refine Tt.bif (fun h=>?_) (fun h=>?_)
 exact Tt.ret (by grind)
 refine Tt.bif (fun h=>?_) (fun h=>?_)
 refine Tt.bif (fun h=>?_) (fun h=>?_)
 exact Tt.ret (by grind)
 refine Tt.bif (fun h=>?_) (fun h=>?_)
 exact Tt.ret (by grind)
 exact Tt.ret (by grind)
 refine Tt.bif (fun h=>?_) (fun h=>?_)
 refine Tt.bif (fun h=>?_) (fun h=>?_)
 exact Tt.ret (by grind)
 refine Tt.bif (fun h=>?_) (fun h=>?_)
 exact Tt.ret (by grind)
 exact Tt.ret (by grind)
 refine Tt.bif (fun h=>?_) (fun h=>?_)
 exact Tt.ret (by grind)
 refine Tt.bif (fun h=>?_) (fun h=>?_)
 exact Tt.ret (by grind)
 exact Tt.ret (by grind)
theorem t_ftCheck (a0:Front) (h0:FrontB a0):Tt (f_ftCheck a0) fun y=>True:=by
 unfold f_ftCheck
 refine Tt.bnd (t_ftKnown _) fun y0 hy0=>?_
 refine Tt.bif (fun h=>?_) (fun h=>?_)
 exact Tt.ret (by grind)
 refine Tt.bnd (t_within _ _ _) fun y1 hy1=>?_
 refine Tt.bif (fun h=>?_) (fun h=>?_)
 refine Tt.bnd (t_within _ _ _) fun y2 hy2=>?_
 refine Tt.bif (fun h=>?_) (fun h=>?_)
 refine Tt.bnd (t_within _ _ _) fun y3 hy3=>?_
 refine Tt.bif (fun h=>?_) (fun h=>?_)
 refine Tt.bnd (t_ftCells _) fun y4 hy4=>?_
 refine Tt.bnd (t_ftWhat _) fun y5 hy5=>?_
 refine Tt.bif (fun h=>?_) (fun h=>?_)
 exact Tt.ret (by grind)
 refine Tt.bif (fun h=>?_) (fun h=>?_)
 exact Tt.ret (by grind)
 refine Tt.bnd (t_ftClean _ (by grind)) fun y6 hy6=>?_
 refine Tt.bif (fun h=>?_) (fun h=>?_)
 exact Tt.ret (by grind)
 refine Tt.bif (fun h=>?_) (fun h=>?_)
 exact Tt.ret (by grind)
 refine Tt.bif (fun h=>?_) (fun h=>?_)
 exact Tt.ret (by grind)
 refine Tt.bnd (t_ftOf _ (by grind)) fun y7 hy7=>?_
 refine Tt.bnd (t_ftSame _ _ (by grind) (by grind)) fun y8 hy8=>?_
 refine Tt.bif (fun h=>?_) (fun h=>?_)
 exact Tt.ret (by grind)
 exact Tt.ret (by grind)
 refine Tt.bnd (t_ftWhat _) fun y9 hy9=>?_
 refine Tt.bif (fun h=>?_) (fun h=>?_)
 exact Tt.ret (by grind)
 exact Tt.ret (by grind)
 refine Tt.bnd (t_ftWhat _) fun y10 hy10=>?_
 refine Tt.bif (fun h=>?_) (fun h=>?_)
 exact Tt.ret (by grind)
 exact Tt.ret (by grind)
 refine Tt.bnd (t_ftWhat _) fun y11 hy11=>?_
 refine Tt.bif (fun h=>?_) (fun h=>?_)
 exact Tt.ret (by grind)
 exact Tt.ret (by grind)
theorem st_ftList_0 (R:Nat) (size:Int) (r:(Scan × Unit)) (out:List (Int)) (n:Int) (h0:size=2∨size=4) (h1:r.1.rest.length≤R∧R≤3990∧n < 4294967296) (h2:(r.1.bad=true→out.length≤4000)∧(r.1.bad=false→out.length+r.1.rest.length+1≤4000)):Tt (s_ftList_0 size r out n) fun r=>match r with | .inl (size',r',out',n',_)=>((size'=2∨size'=4)∧(r'.1.rest.length≤R∧R≤3990∧n' < 4294967296)∧((r'.1.bad=true→out'.length≤4000)∧(r'.1.bad=false→out'.length+r'.1.rest.length+1≤4000)))∧n'.toNat < n.toNat | .inr y=>y.1.length≤4000∧y.2.1.1.rest.length≤R:=by
 unfold s_ftList_0
 refine Tt.bif (fun h=>?_) (fun h=>?_)
 refine Tt.bnd (t_scBad _) fun y3 hy3=>?_
 refine Tt.bif (fun h=>?_) (fun h=>?_)
 refine Tt.bnd (t_scNum _ _ (by grind)) fun y4 hy4=>?_
 refine Tt.ok (by grind) ?_
 refine Tt.ok (by grind) ?_
 exact Tt.ret (by grind)
 exact Tt.ret (by grind)
 exact Tt.ret (by grind)
theorem lt_ftList_0 (R:Nat) (size:Int) (r:(Scan × Unit)) (out:List (Int)) (n:Int) (h0:size=2∨size=4) (h1:r.1.rest.length≤R∧R≤3990∧n < 4294967296) (h2:(r.1.bad=true→out.length≤4000)∧(r.1.bad=false→out.length+r.1.rest.length+1≤4000)):Tt (α:=(List (Int) × ((Scan × Unit) × Unit))) (lpF l_ftList_0.step (u_ftList_0 size r out n) (size,(r,(out,(n,()))))) fun y=>y.1.length≤4000∧y.2.1.1.rest.length≤R:=by
 refine Tt.lp (fun x=>(x.1=2∨x.1=4)∧(x.2.1.1.rest.length≤R∧R≤3990∧x.2.2.2.1 < 4294967296)∧((x.2.1.1.bad=true→x.2.2.1.length≤4000)∧(x.2.1.1.bad=false→x.2.2.1.length+x.2.1.1.rest.length+1≤4000))) (fun x=>x.2.2.2.1.toNat) (fun x h=>(st_ftList_0 R x.1 x.2.1 x.2.2.1 x.2.2.2.1 h.1 h.2.1 h.2.2).mono fun r hr=>?_) (by exact ⟨h0,h1,h2⟩) (by unfold u_ftList_0;grind)
 rcases r with r | r <;> exact hr
theorem t_ftList (a0:Scan) (a1:Int) (h0:a0.rest.length≤3990) (h1:a1=2∨a1=4):Tt (f_ftList a0 a1) fun y=>y.1.1.length≤4000∧y.2.1.rest.length≤a0.rest.length:=by
 unfold f_ftList
 refine Tt.bnd (t_scNum _ _ (by grind)) fun y0 hy0=>?_
 refine Tt.bnd (lt_ftList_0 (a0.rest.length) _ _ _ _ (by grind) (by grind) (by grind)) fun (y1:(List (Int) × ((Scan × Unit) × Unit))) hy1=>?_
 exact Tt.ret (by grind)
theorem st_ftRow_0 (R:Nat) (r:(Scan × Unit)) (out:List (Cell)) (n:Int) (h0:r.1.rest.length≤R∧R≤3990∧n < 4294967296) (h1:(r.1.bad=true→out.length≤4000)∧(r.1.bad=false→out.length+r.1.rest.length+1≤4000)∧CellsB out):Tt (s_ftRow_0 r out n) fun r=>match r with | .inl (r',out',n',_)=>((r'.1.rest.length≤R∧R≤3990∧n' < 4294967296)∧((r'.1.bad=true→out'.length≤4000)∧(r'.1.bad=false→out'.length+r'.1.rest.length+1≤4000)∧CellsB out'))∧n'.toNat < n.toNat | .inr y=>y.1.length≤4000∧y.2.1.1.rest.length≤R∧CellsB y.1:=by
 unfold s_ftRow_0
 refine Tt.bif (fun h=>?_) (fun h=>?_)
 refine Tt.bnd (t_scBad _) fun y4 hy4=>?_
 refine Tt.bif (fun h=>?_) (fun h=>?_)
 refine Tt.bnd (t_scNum _ _ (by grind)) fun y5 hy5=>?_
 refine Tt.bif (fun h=>?_) (fun h=>?_)
 refine Tt.ok (by grind) ?_
 refine Tt.ok (by grind) ?_
 exact Tt.ret (by grind)
 refine Tt.bnd (t_scTake _ _ (by grind)) fun y6 hy6=>?_
 refine Tt.ok (by grind) ?_
 refine Tt.ok (by grind) ?_
 exact Tt.ret (by grind)
 exact Tt.ret (by grind)
 exact Tt.ret (by grind)
theorem lt_ftRow_0 (R:Nat) (r:(Scan × Unit)) (out:List (Cell)) (n:Int) (h0:r.1.rest.length≤R∧R≤3990∧n < 4294967296) (h1:(r.1.bad=true→out.length≤4000)∧(r.1.bad=false→out.length+r.1.rest.length+1≤4000)∧CellsB out):Tt (α:=(List (Cell) × ((Scan × Unit) × Unit))) (lpF l_ftRow_0.step (u_ftRow_0 r out n) (r,(out,(n,())))) fun y=>y.1.length≤4000∧y.2.1.1.rest.length≤R∧CellsB y.1:=by
 refine Tt.lp (fun x=>(x.1.1.rest.length≤R∧R≤3990∧x.2.2.1 < 4294967296)∧((x.1.1.bad=true→x.2.1.length≤4000)∧(x.1.1.bad=false→x.2.1.length+x.1.1.rest.length+1≤4000)∧CellsB x.2.1)) (fun x=>x.2.2.1.toNat) (fun x h=>(st_ftRow_0 R x.1 x.2.1 x.2.2.1 h.1 h.2).mono fun r hr=>?_) (by exact ⟨h0,h1⟩) (by unfold u_ftRow_0;grind)
 rcases r with r | r <;> exact hr
theorem t_ftRow (a0:Scan) (h0:a0.rest.length≤3990):Tt (f_ftRow a0) fun y=>y.1.1.length≤4000∧y.2.1.rest.length≤a0.rest.length∧CellsB y.1.1:=by
 unfold f_ftRow
 refine Tt.bnd (t_scNum _ _ (by grind)) fun y0 hy0=>?_
 refine Tt.bnd (lt_ftRow_0 (a0.rest.length) _ _ _ (by grind) (by grind)) fun (y1:(List (Cell) × ((Scan × Unit) × Unit))) hy1=>?_
 exact Tt.ret (by grind)
end Go.Proofs.YtjgeofdgdlmcoaaGreatDoor
