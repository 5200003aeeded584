/- Walks of the functions that the law 'FnProgBelow' reaches, part 0: for each a Lean function and the proof that Go's comes to just its answer (lines of the print, under own names; no condition). -/
import Derived.Test.YtmgdjmeoljepgaaProg
import Derived.Below
import Derived.Deep.Draws
import Derived.Deep.AppendLies
import Derived.Maps.AppendAt
import Derived.OwnWalk
import Derived.Laws.BytesArg
import Derived.Laws.MakeOwn
import Derived.Laws.OwnMore
import Derived.Deep.OwnRows
import Derived.Tactics
import Derived.Lib.ConvBytes
import Derived.Laws.Slices
import Derived.WalkKit
import Derived.KernelRfl
import Derived.RowKit3
import Derived.Deep.LoopGhost
import Derived.Deep.QuietTactic
import Derived.BigQuiet
import Derived.WideLaws
import Derived.Deep.DeepCutAuto
import Derived.Deep.CutBlock
import Derived.Deep.RegionHeld3
import Derived.Laws.Rows
import Derived.Lib.AppendStr
import Derived.ArgAppend
import Derived.Laws.IdiomCopy
import Derived.OrdersHeld
import Derived.Laws.BitsLemmas
import Derived.RowKit
import Derived.Test.YtmgdjmeoljepgaaZFnProgBelowWWords
import Derived.Test.YtmgdjmeoljepgaaZFnProgBelowWLast
import Derived.Test.YtmgdjmeoljepgaaZFnProgBelowWTab
import Derived.Test.YtmgdjmeoljepgaaZFnProgBelowWFour
import Derived.Test.YtmgdjmeoljepgaaZFnProgBelowWQPut
import Derived.Test.YtmgdjmeoljepgaaZFnProgBelowWApart
import Derived.Test.YtmgdjmeoljepgaaZFnProgBelowWArr
import Derived.Test.YtmgdjmeoljepgaaZFnProgBelowWZeros
import Derived.Test.YtmgdjmeoljepgaaZFnProgBelowWFoot
import Derived.Test.YtmgdjmeoljepgaaZFnProgBelowWKept
import Derived.Test.YtmgdjmeoljepgaaZFnProgBelowWShare
import Derived.Test.YtmgdjmeoljepgaaZFnProgBelowWN
import Derived.Test.YtmgdjmeoljepgaaZFnProgBelowWFootNe
import Derived.Test.YtmgdjmeoljepgaaZFnProgBelowWAt
import Derived.Test.YtmgdjmeoljepgaaZFnProgBelowWEqStruct
import Derived.Test.YtmgdjmeoljepgaaZFnProgBelowWRepsOne
import Derived.Test.YtmgdjmeoljepgaaZFnProgBelowWInv
import Derived.Test.YtmgdjmeoljepgaaZFnProgBelowWInvWords
import Derived.Test.YtmgdjmeoljepgaaZFnProgBelowWGuard
import Derived.Test.YtmgdjmeoljepgaaZFnProgBelowWNEv
import Derived.Test.YtmgdjmeoljepgaaZFnProgBelowWMore
namespace Go.Proofs.Ytmgdjmeoljepgaa.PFnProgBelow
open Go.RowKit Go.Proofs.YtmgdjmeoljepgaaW.PrintWords Go.Proofs.YtmgdjmeoljepgaaW.PrintLast Go.Proofs.YtmgdjmeoljepgaaW.PrintMore
attribute [local go_sem] max2_int min2_int max_two min_two max_three min_three max_four min_four
set_option linter.unusedVariables false
set_option linter.unusedSimpArgs false
def errW : Option Int → Value
 | none => .nilIface
 | some c => .iface 0 (.int .i64 c)
theorem errW_none : errW none = .nilIface:=rfl
theorem errW_some (c : Int) : errW (some c) = .iface 0 (.int .i64 c):=rfl
theorem info3 : (Try.prog.info? 3).map (fun i => (i.zero,i.size,i.bytes)) = some (some (.int .i64 0),1,8):=by kernel_rfl
theorem info4 : (Try.prog.info? 4).map (fun i => (i.zero,i.size,i.bytes)) = some (some (.bool false),1,1):=by kernel_rfl
theorem info9 : (Try.prog.info? 9).map (fun i => (i.zero,i.size,i.bytes)) = some (some (.string ⟨#[]⟩),1,16):=by kernel_rfl
theorem info42 : (Try.prog.info? 42).map (fun i => (i.zero,i.size,i.bytes)) = some (some (.slice none 0 0),1,24):=by kernel_rfl
theorem info46 : (Try.prog.info? 46).map (fun i => (i.zero,i.size,i.bytes)) = some (some (.agg #[(.int .i64 0),(.int .i64 0),(.slice none 0 0),(.slice none 0 0),(.slice none 0 0),(.slice none 0 0),(.slice none 0 0)]),7,136):=by kernel_rfl
theorem info48 : (Try.prog.info? 48).map (fun i => (i.zero,i.size,i.bytes)) = some (some (.agg #[(.int .i64 0),(.slice none 0 0),(.slice none 0 0),(.int .i64 0),(.int .i64 0),(.slice none 0 0),(.slice none 0 0),(.slice none 0 0),(.slice none 0 0),(.slice none 0 0)]),10,192):=by kernel_rfl
theorem info54 : (Try.prog.info? 54).map (fun i => (i.zero,i.size,i.bytes)) = some (some (.slice none 0 0),1,24):=by kernel_rfl
theorem info57 : (Try.prog.info? 57).map (fun i => (i.zero,i.size,i.bytes)) = some (some (.agg #[(.int .i64 0),(.slice none 0 0)]),2,32):=by kernel_rfl
theorem info67 : (Try.prog.info? 67).map (fun i => (i.zero,i.size,i.bytes)) = some (some (.agg #[(.int .i64 0),(.int .i64 0),(.string ⟨#[]⟩)]),3,32):=by kernel_rfl
theorem info70 : (Try.prog.info? 70).map (fun i => (i.zero,i.size,i.bytes)) = some (some (.agg #[(.int .i64 0),(.int .i64 0),(.int .i64 0),(.int .i64 0),(.string ⟨#[]⟩)]),5,48):=by kernel_rfl
theorem info76 : (Try.prog.info? 76).map (fun i => (i.zero,i.size,i.bytes)) = some (some (.agg #[(.int .i64 0),(.int .i64 0)]),2,16):=by kernel_rfl
structure S67 where
 f0 : Int
 f1 : Int
 f2 : ByteArray
def z67 : S67:=⟨(0 : Int),(0 : Int),(⟨#[]⟩ : ByteArray)⟩
def k67 : Kd S67:=Kd.iso (Kd.pair (Kd.int .i64) (Kd.pair (Kd.int .i64) Kd.string)) (fun x : S67 => (x.f0,x.f1,x.f2))
theorem k67_open {w : World} {x : S67} {cs : List Value} (h : k67.K w x cs) : cs = [.int .i64 x.f0,.int .i64 x.f1,.string x.f2]:=by
 obtain ⟨_,_,rfl,rfl,⟨_,_,rfl,rfl,rfl⟩⟩:=h
 exact rfl
theorem k67_openM {w : World} {base : Nat} {ok : Nat → Prop} {x : S67} {cs : List Value} (h : k67.M w base ok x cs) : cs = [.int .i64 x.f0,.int .i64 x.f1,.string x.f2]:=by
 obtain ⟨_,_,rfl,rfl,⟨_,_,rfl,rfl,rfl⟩⟩:=h
 exact rfl
theorem k67_mk (w : World) (x : S67)  : k67.K w x [.int .i64 x.f0,.int .i64 x.f1,.string x.f2]:=⟨[.int .i64 x.f0],[.int .i64 x.f1,.string x.f2],rfl,rfl,⟨[.int .i64 x.f1],[.string x.f2],rfl,rfl,rfl⟩⟩
theorem k67_mkM (w : World) (base : Nat) (ok : Nat → Prop) (x : S67)  : k67.M w base ok x [.int .i64 x.f0,.int .i64 x.f1,.string x.f2]:=⟨[.int .i64 x.f0],[.int .i64 x.f1,.string x.f2],rfl,rfl,⟨[.int .i64 x.f1],[.string x.f2],rfl,rfl,rfl⟩⟩
theorem k67_mkF (W : World) (ok : Nat → Prop) (x : S67) : Kd.FK k67 W ok x [.int .i64 x.f0,.int .i64 x.f1,.string x.f2]:=fun W2 _ => k67_mk W2 x
def rd_T67 (xs : List S67) (i : Int) : S67:=xs.getD i.toNat z67
theorem at_T67 {w : World} {A : Option Addr} {n : Nat} {xs : List S67} (h : Kd.C k67 w A n xs) (i : Int) (h0 : 0 ≤ i) (h1 : i < n) : ∃ ad ,A = some ad ∧ w.cell? (ad.add (i.toNat * 3)) = some (.int .i64 (rd_T67 xs i).f0) ∧ w.cell? ⟨(ad.add (i.toNat * 3)).block,(ad.add (i.toNat * 3)).off + 1,none⟩ = some (.int .i64 (rd_T67 xs i).f1) ∧ w.cell? ⟨(ad.add (i.toNat * 3)).block,(ad.add (i.toNat * 3)).off + 2,none⟩ = some (.string (rd_T67 xs i).f2):=by
 obtain ⟨ad,c,e,_,hK,hc0⟩:=Kd.C_get h z67 i h0 h1;have hc : ∀ j u,c[j]? = some u → w.cell? (ad.add (i.toNat * 3 + j)) = some u:=hc0;obtain rfl:=k67_open hK
 exact ⟨ad,e,hc 0 _ rfl,by rw [← add_field _ _ 1 (by omega)];exact hc 1 _ rfl,by rw [← add_field _ _ 2 (by omega)];exact hc 2 _ rfl⟩
structure S70 where
 f0 : Int
 f1 : Int
 f2 : S67
def z70 : S70:=⟨(0 : Int),(0 : Int),z67⟩
def k70 : Kd S70:=Kd.iso (Kd.pair (Kd.int .i64) (Kd.pair (Kd.int .i64) k67)) (fun x : S70 => (x.f0,x.f1,x.f2))
theorem k70_open {w : World} {x : S70} {cs : List Value} (h : k70.K w x cs) : cs = [.int .i64 x.f0,.int .i64 x.f1,.int .i64 x.f2.f0,.int .i64 x.f2.f1,.string x.f2.f2]:=by
 obtain ⟨_,_,rfl,rfl,⟨_,_,rfl,rfl,s2⟩⟩:=h;obtain rfl:=k67_open s2
 exact rfl
theorem k70_openM {w : World} {base : Nat} {ok : Nat → Prop} {x : S70} {cs : List Value} (h : k70.M w base ok x cs) : cs = [.int .i64 x.f0,.int .i64 x.f1,.int .i64 x.f2.f0,.int .i64 x.f2.f1,.string x.f2.f2]:=by
 obtain ⟨_,_,rfl,rfl,⟨_,_,rfl,rfl,s2⟩⟩:=h;obtain rfl:=k67_openM s2
 exact rfl
theorem k70_mk (w : World) (x : S70)  : k70.K w x [.int .i64 x.f0,.int .i64 x.f1,.int .i64 x.f2.f0,.int .i64 x.f2.f1,.string x.f2.f2]:=⟨[.int .i64 x.f0],[.int .i64 x.f1,.int .i64 x.f2.f0,.int .i64 x.f2.f1,.string x.f2.f2],rfl,rfl,⟨[.int .i64 x.f1],[.int .i64 x.f2.f0,.int .i64 x.f2.f1,.string x.f2.f2],rfl,rfl,(k67_mk w x.f2 )⟩⟩
theorem k70_mkM (w : World) (base : Nat) (ok : Nat → Prop) (x : S70)  : k70.M w base ok x [.int .i64 x.f0,.int .i64 x.f1,.int .i64 x.f2.f0,.int .i64 x.f2.f1,.string x.f2.f2]:=⟨[.int .i64 x.f0],[.int .i64 x.f1,.int .i64 x.f2.f0,.int .i64 x.f2.f1,.string x.f2.f2],rfl,rfl,⟨[.int .i64 x.f1],[.int .i64 x.f2.f0,.int .i64 x.f2.f1,.string x.f2.f2],rfl,rfl,(k67_mkM w base ok x.f2 )⟩⟩
theorem k70_mkF (W : World) (ok : Nat → Prop) (x : S70) : Kd.FK k70 W ok x [.int .i64 x.f0,.int .i64 x.f1,.int .i64 x.f2.f0,.int .i64 x.f2.f1,.string x.f2.f2]:=fun W2 _ => k70_mk W2 x
def rd_T70 (xs : List S70) (i : Int) : S70:=xs.getD i.toNat z70
theorem at_T70 {w : World} {A : Option Addr} {n : Nat} {xs : List S70} (h : Kd.C k70 w A n xs) (i : Int) (h0 : 0 ≤ i) (h1 : i < n) : ∃ ad ,A = some ad ∧ w.cell? (ad.add (i.toNat * 5)) = some (.int .i64 (rd_T70 xs i).f0) ∧ w.cell? ⟨(ad.add (i.toNat * 5)).block,(ad.add (i.toNat * 5)).off + 1,none⟩ = some (.int .i64 (rd_T70 xs i).f1) ∧ w.cell? ⟨(ad.add (i.toNat * 5)).block,(ad.add (i.toNat * 5)).off + 2,none⟩ = some (.int .i64 (rd_T70 xs i).f2.f0) ∧ w.cell? ⟨(ad.add (i.toNat * 5)).block,(ad.add (i.toNat * 5)).off + 3,none⟩ = some (.int .i64 (rd_T70 xs i).f2.f1) ∧ w.cell? ⟨(ad.add (i.toNat * 5)).block,(ad.add (i.toNat * 5)).off + 4,none⟩ = some (.string (rd_T70 xs i).f2.f2):=by
 obtain ⟨ad,c,e,_,hK,hc0⟩:=Kd.C_get h z70 i h0 h1;have hc : ∀ j u,c[j]? = some u → w.cell? (ad.add (i.toNat * 5 + j)) = some u:=hc0;obtain rfl:=k70_open hK
 exact ⟨ad,e,hc 0 _ rfl,by rw [← add_field _ _ 1 (by omega)];exact hc 1 _ rfl,by rw [← add_field _ _ 2 (by omega)];exact hc 2 _ rfl,by rw [← add_field _ _ 3 (by omega)];exact hc 3 _ rfl,by rw [← add_field _ _ 4 (by omega)];exact hc 4 _ rfl⟩
def rd_L5 (xs : List (List S70)) (i : Int) : (List S70):=xs.getD i.toNat ([] : List S70)
theorem at_L5 {w : World} {A : Option Addr} {n : Nat} {xs : List (List S70)} (h : Kd.C (Kd.slice 70 k70) w A n xs) (i : Int) (h0 : 0 ≤ i) (h1 : i < n) : ∃ ad A0 c0,A = some ad ∧ w.cell? (ad.add i.toNat) = some (.slice A0 (rd_L5 xs i).length c0) ∧ (rd_L5 xs i).length ≤ c0 ∧ k70.C w A0 (rd_L5 xs i).length (rd_L5 xs i):=by
 obtain ⟨ad,c,e,_,hK,hc0⟩:=Kd.C_get h ([] : List S70) i h0 h1;have hc : ∀ j u,c[j]? = some u → w.cell? (ad.add (i.toNat * 1 + j)) = some u:=hc0;obtain ⟨A0,c0,rfl,l0,g0⟩:=hK
 exact ⟨ad,A0,c0,e,by have hq:=hc 0 _ rfl;rwa [Nat.mul_one,Nat.add_zero] at hq,l0,g0⟩
structure S57 where
 f0 : Int
 f1 : (List S70)
def z57 : S57:=⟨(0 : Int),([] : List S70)⟩
def k57 : Kd S57:=Kd.iso (Kd.pair (Kd.int .i64) (Kd.slice 70 k70)) (fun x : S57 => (x.f0,x.f1))
theorem k57_open {w : World} {x : S57} {cs : List Value} (h : k57.K w x cs) : ∃ A1 c1,cs = [.int .i64 x.f0,.slice A1 x.f1.length c1] ∧ x.f1.length ≤ c1 ∧ k70.C w A1 x.f1.length x.f1:=by
 obtain ⟨_,_,rfl,rfl,⟨A1,c1,rfl,l1,g1⟩⟩:=h
 exact ⟨A1,c1,rfl,l1,g1⟩
theorem k57_openM {w : World} {base : Nat} {ok : Nat → Prop} {x : S57} {cs : List Value} (h : k57.M w base ok x cs) : ∃ v1,cs = [.int .i64 x.f0,v1] ∧ k70.R 70 w base ok v1 x.f1:=by
 obtain ⟨_,_,rfl,rfl,⟨v1,rfl,g1⟩⟩:=h
 exact ⟨v1,rfl,g1⟩
theorem k57_mk (w : World) (x : S57) {A1 : Option Addr} {c1 : Nat} (l1 : x.f1.length ≤ c1) (g1 : k70.C w A1 x.f1.length x.f1) : k57.K w x [.int .i64 x.f0,.slice A1 x.f1.length c1]:=⟨[.int .i64 x.f0],[.slice A1 x.f1.length c1],rfl,rfl,⟨A1,c1,rfl,l1,g1⟩⟩
theorem k57_mkM (w : World) (base : Nat) (ok : Nat → Prop) (x : S57) {v1 : Value} (g1 : k70.R 70 w base ok v1 x.f1) : k57.M w base ok x [.int .i64 x.f0,v1]:=⟨[.int .i64 x.f0],[v1],rfl,rfl,⟨v1,rfl,g1⟩⟩
theorem k57_openF {W : World} {ok : Nat → Prop} {x : S57} {cs : List Value} (h : Kd.FK k57 W ok x cs) : ∃ A1 c1,cs = [.int .i64 x.f0,.slice A1 x.f1.length c1] ∧ x.f1.length ≤ c1 ∧ Kd.F k70 W ok A1 x.f1.length x.f1:=by
 obtain ⟨A1,c1,rfl,l1,_⟩:=k57_open (Kd.FK_now h)
 exact ⟨A1,c1,rfl,l1,(fun W' hW => by obtain ⟨A1_,c1_,he,l1_,g1_⟩:=k57_open (h W' hW);injection (Option.some.inj (show some (Value.slice A1 x.f1.length c1) = some (Value.slice A1_ x.f1.length c1_) from congrArg (fun l => l[1]?) he)) with ha_ _ _;rw [ha_];exact g1_)⟩
theorem k57_mkF (W : World) (ok : Nat → Prop) (x : S57) {A1 : Option Addr} {c1 : Nat} (l1 : x.f1.length ≤ c1) (g1 : Kd.F k70 W ok A1 x.f1.length x.f1) : Kd.FK k57 W ok x [.int .i64 x.f0,.slice A1 x.f1.length c1]:=fun W2 hW => k57_mk W2 x l1 (g1 W2 hW)
def rd_T57 (xs : List S57) (i : Int) : S57:=xs.getD i.toNat z57
theorem at_T57 {w : World} {A : Option Addr} {n : Nat} {xs : List S57} (h : Kd.C k57 w A n xs) (i : Int) (h0 : 0 ≤ i) (h1 : i < n) : ∃ ad A1 c1,A = some ad ∧ w.cell? (ad.add (i.toNat * 2)) = some (.int .i64 (rd_T57 xs i).f0) ∧ w.cell? ⟨(ad.add (i.toNat * 2)).block,(ad.add (i.toNat * 2)).off + 1,none⟩ = some (.slice A1 (rd_T57 xs i).f1.length c1) ∧ (rd_T57 xs i).f1.length ≤ c1 ∧ k70.C w A1 (rd_T57 xs i).f1.length (rd_T57 xs i).f1:=by
 obtain ⟨ad,c,e,_,hK,hc0⟩:=Kd.C_get h z57 i h0 h1;have hc : ∀ j u,c[j]? = some u → w.cell? (ad.add (i.toNat * 2 + j)) = some u:=hc0;obtain ⟨A1,c1,rfl,l1,g1⟩:=k57_open hK
 exact ⟨ad,A1,c1,e,hc 0 _ rfl,by rw [← add_field _ _ 1 (by omega)];exact hc 1 _ rfl,l1,g1⟩
def rd_L7 (xs : List (List S57)) (i : Int) : (List S57):=xs.getD i.toNat ([] : List S57)
theorem at_L7 {w : World} {A : Option Addr} {n : Nat} {xs : List (List S57)} (h : Kd.C (Kd.slice 57 k57) w A n xs) (i : Int) (h0 : 0 ≤ i) (h1 : i < n) : ∃ ad A0 c0,A = some ad ∧ w.cell? (ad.add i.toNat) = some (.slice A0 (rd_L7 xs i).length c0) ∧ (rd_L7 xs i).length ≤ c0 ∧ k57.C w A0 (rd_L7 xs i).length (rd_L7 xs i):=by
 obtain ⟨ad,c,e,_,hK,hc0⟩:=Kd.C_get h ([] : List S57) i h0 h1;have hc : ∀ j u,c[j]? = some u → w.cell? (ad.add (i.toNat * 1 + j)) = some u:=hc0;obtain ⟨A0,c0,rfl,l0,g0⟩:=hK
 exact ⟨ad,A0,c0,e,by have hq:=hc 0 _ rfl;rwa [Nat.mul_one,Nat.add_zero] at hq,l0,g0⟩
structure S76 where
 f0 : Int
 f1 : Int
def z76 : S76:=⟨(0 : Int),(0 : Int)⟩
def k76 : Kd S76:=Kd.iso (Kd.pair (Kd.int .i64) (Kd.int .i64)) (fun x : S76 => (x.f0,x.f1))
theorem k76_open {w : World} {x : S76} {cs : List Value} (h : k76.K w x cs) : cs = [.int .i64 x.f0,.int .i64 x.f1]:=by
 obtain ⟨_,_,rfl,rfl,rfl⟩:=h
 exact rfl
theorem k76_openM {w : World} {base : Nat} {ok : Nat → Prop} {x : S76} {cs : List Value} (h : k76.M w base ok x cs) : cs = [.int .i64 x.f0,.int .i64 x.f1]:=by
 obtain ⟨_,_,rfl,rfl,rfl⟩:=h
 exact rfl
theorem k76_mk (w : World) (x : S76)  : k76.K w x [.int .i64 x.f0,.int .i64 x.f1]:=⟨[.int .i64 x.f0],[.int .i64 x.f1],rfl,rfl,rfl⟩
theorem k76_mkM (w : World) (base : Nat) (ok : Nat → Prop) (x : S76)  : k76.M w base ok x [.int .i64 x.f0,.int .i64 x.f1]:=⟨[.int .i64 x.f0],[.int .i64 x.f1],rfl,rfl,rfl⟩
theorem k76_mkF (W : World) (ok : Nat → Prop) (x : S76) : Kd.FK k76 W ok x [.int .i64 x.f0,.int .i64 x.f1]:=fun W2 _ => k76_mk W2 x
def rd_T76 (xs : List S76) (i : Int) : S76:=xs.getD i.toNat z76
theorem at_T76 {w : World} {A : Option Addr} {n : Nat} {xs : List S76} (h : Kd.C k76 w A n xs) (i : Int) (h0 : 0 ≤ i) (h1 : i < n) : ∃ ad ,A = some ad ∧ w.cell? (ad.add (i.toNat * 2)) = some (.int .i64 (rd_T76 xs i).f0) ∧ w.cell? ⟨(ad.add (i.toNat * 2)).block,(ad.add (i.toNat * 2)).off + 1,none⟩ = some (.int .i64 (rd_T76 xs i).f1):=by
 obtain ⟨ad,c,e,_,hK,hc0⟩:=Kd.C_get h z76 i h0 h1;have hc : ∀ j u,c[j]? = some u → w.cell? (ad.add (i.toNat * 2 + j)) = some u:=hc0;obtain rfl:=k76_open hK
 exact ⟨ad,e,hc 0 _ rfl,by rw [← add_field _ _ 1 (by omega)];exact hc 1 _ rfl⟩
def rd_L9 (xs : List (List Int)) (i : Int) : (List Int):=xs.getD i.toNat ([] : List Int)
theorem at_L9 {w : World} {A : Option Addr} {n : Nat} {xs : List (List Int)} (h : Kd.C (Kd.slice 3 (Kd.int .i64)) w A n xs) (i : Int) (h0 : 0 ≤ i) (h1 : i < n) : ∃ ad A0 c0,A = some ad ∧ w.cell? (ad.add i.toNat) = some (.slice A0 (rd_L9 xs i).length c0) ∧ (rd_L9 xs i).length ≤ c0 ∧ (Kd.int .i64).C w A0 (rd_L9 xs i).length (rd_L9 xs i):=by
 obtain ⟨ad,c,e,_,hK,hc0⟩:=Kd.C_get h ([] : List Int) i h0 h1;have hc : ∀ j u,c[j]? = some u → w.cell? (ad.add (i.toNat * 1 + j)) = some u:=hc0;obtain ⟨A0,c0,rfl,l0,g0⟩:=hK
 exact ⟨ad,A0,c0,e,by have hq:=hc 0 _ rfl;rwa [Nat.mul_one,Nat.add_zero] at hq,l0,g0⟩
def rd_L10 (xs : List (List (List S70))) (i : Int) : (List (List S70)):=xs.getD i.toNat ([] : List (List S70))
theorem at_L10 {w : World} {A : Option Addr} {n : Nat} {xs : List (List (List S70))} (h : Kd.C (Kd.slice 42 (Kd.slice 70 k70)) w A n xs) (i : Int) (h0 : 0 ≤ i) (h1 : i < n) : ∃ ad A0 c0,A = some ad ∧ w.cell? (ad.add i.toNat) = some (.slice A0 (rd_L10 xs i).length c0) ∧ (rd_L10 xs i).length ≤ c0 ∧ (Kd.slice 70 k70).C w A0 (rd_L10 xs i).length (rd_L10 xs i):=by
 obtain ⟨ad,c,e,_,hK,hc0⟩:=Kd.C_get h ([] : List (List S70)) i h0 h1;have hc : ∀ j u,c[j]? = some u → w.cell? (ad.add (i.toNat * 1 + j)) = some u:=hc0;obtain ⟨A0,c0,rfl,l0,g0⟩:=hK
 exact ⟨ad,A0,c0,e,by have hq:=hc 0 _ rfl;rwa [Nat.mul_one,Nat.add_zero] at hq,l0,g0⟩
def rd_L11 (xs : List (List S76)) (i : Int) : (List S76):=xs.getD i.toNat ([] : List S76)
theorem at_L11 {w : World} {A : Option Addr} {n : Nat} {xs : List (List S76)} (h : Kd.C (Kd.slice 76 k76) w A n xs) (i : Int) (h0 : 0 ≤ i) (h1 : i < n) : ∃ ad A0 c0,A = some ad ∧ w.cell? (ad.add i.toNat) = some (.slice A0 (rd_L11 xs i).length c0) ∧ (rd_L11 xs i).length ≤ c0 ∧ k76.C w A0 (rd_L11 xs i).length (rd_L11 xs i):=by
 obtain ⟨ad,c,e,_,hK,hc0⟩:=Kd.C_get h ([] : List S76) i h0 h1;have hc : ∀ j u,c[j]? = some u → w.cell? (ad.add (i.toNat * 1 + j)) = some u:=hc0;obtain ⟨A0,c0,rfl,l0,g0⟩:=hK
 exact ⟨ad,A0,c0,e,by have hq:=hc 0 _ rfl;rwa [Nat.mul_one,Nat.add_zero] at hq,l0,g0⟩
structure S46 where
 f0 : Int
 f1 : Int
 f2 : (List Int)
 f3 : (List (List S70))
 f4 : (List S70)
 f5 : (List S76)
 f6 : (List S46)
def z46 : S46:=⟨(0 : Int),(0 : Int),([] : List Int),([] : List (List S70)),([] : List S70),([] : List S76),([] : List S46)⟩
def F46 (d : Kd S46) : Kd S46:=Kd.iso (Kd.pair (Kd.int .i64) (Kd.pair (Kd.int .i64) (Kd.pair (Kd.slice 3 (Kd.int .i64)) (Kd.pair (Kd.slice 42 (Kd.slice 70 k70)) (Kd.pair (Kd.slice 70 k70) (Kd.pair (Kd.slice 76 k76) (Kd.slice 46 d))))))) (fun x : S46 => (x.f0,x.f1,x.f2,x.f3,x.f4,x.f5,x.f6))
theorem mono46 : Kd.Mono F46:=Kd.mono_iso _ (Kd.mono_pair (Kd.mono_const _) (Kd.mono_pair (Kd.mono_const _) (Kd.mono_pair (Kd.mono_const _) (Kd.mono_pair (Kd.mono_const _) (Kd.mono_pair (Kd.mono_const _) (Kd.mono_pair (Kd.mono_const _) (Kd.mono_slice 46 Kd.mono_id)))))))
theorem sub46 : Kd.Sub F46 [3,42,46,70,76]:=Kd.sub_iso _ (Kd.sub_pair (Kd.sub_const _ (by decide)) (Kd.sub_pair (Kd.sub_const _ (by decide)) (Kd.sub_pair (Kd.sub_const _ (by decide)) (Kd.sub_pair (Kd.sub_const _ (by decide)) (Kd.sub_pair (Kd.sub_const _ (by decide)) (Kd.sub_pair (Kd.sub_const _ (by decide)) (Kd.sub_slice 46 (by decide) Kd.sub_id)))))))
theorem sz46 : ∀ n,(Kd.upto F46 7 [3,42,46,70,76] n).sz = 7:=Kd.upto_sz (fun _ => rfl)
def k46 : Kd S46:=Kd.fix F46 7 [3,42,46,70,76] sz46 (Kd.upto_E sub46)
theorem k46_open {w : World} {x : S46} {cs : List Value} (h : k46.K w x cs) : ∃ A2 c2 A3 c3 A4 c4 A5 c5 A6 c6,cs = [.int .i64 x.f0,.int .i64 x.f1,.slice A2 x.f2.length c2,.slice A3 x.f3.length c3,.slice A4 x.f4.length c4,.slice A5 x.f5.length c5,.slice A6 x.f6.length c6] ∧ x.f2.length ≤ c2 ∧ (Kd.int .i64).C w A2 x.f2.length x.f2 ∧ x.f3.length ≤ c3 ∧ (Kd.slice 70 k70).C w A3 x.f3.length x.f3 ∧ x.f4.length ≤ c4 ∧ k70.C w A4 x.f4.length x.f4 ∧ x.f5.length ≤ c5 ∧ k76.C w A5 x.f5.length x.f5 ∧ x.f6.length ≤ c6 ∧ k46.C w A6 x.f6.length x.f6:=by
 obtain ⟨n,h⟩:=h
 cases n with
 | zero => exact h.elim
 | succ n =>
  obtain ⟨_,_,rfl,rfl,⟨_,_,rfl,rfl,⟨_,_,rfl,⟨A2,c2,rfl,l2,g2⟩,⟨_,_,rfl,⟨A3,c3,rfl,l3,g3⟩,⟨_,_,rfl,⟨A4,c4,rfl,l4,g4⟩,⟨_,_,rfl,⟨A5,c5,rfl,l5,g5⟩,⟨A6,c6,rfl,l6,g6⟩⟩⟩⟩⟩⟩⟩:=h
  exact ⟨A2,c2,A3,c3,A4,c4,A5,c5,A6,c6,rfl,l2,g2,l3,g3,l4,g4,l5,g5,l6,Kd.fix_C g6⟩
theorem k46_openM {w : World} {base : Nat} {ok : Nat → Prop} {x : S46} {cs : List Value} (h : k46.M w base ok x cs) : ∃ v2 v3 v4 v5 v6,cs = [.int .i64 x.f0,.int .i64 x.f1,v2,v3,v4,v5,v6] ∧ (Kd.int .i64).R 3 w base ok v2 x.f2 ∧ (Kd.slice 70 k70).R 42 w base ok v3 x.f3 ∧ k70.R 70 w base ok v4 x.f4 ∧ k76.R 76 w base ok v5 x.f5 ∧ k46.R 46 w base ok v6 x.f6:=by
 obtain ⟨n,h⟩:=h
 cases n with
 | zero => exact h.elim
 | succ n =>
  obtain ⟨_,_,rfl,rfl,⟨_,_,rfl,rfl,⟨_,_,rfl,⟨v2,rfl,g2⟩,⟨_,_,rfl,⟨v3,rfl,g3⟩,⟨_,_,rfl,⟨v4,rfl,g4⟩,⟨_,_,rfl,⟨v5,rfl,g5⟩,⟨v6,rfl,g6⟩⟩⟩⟩⟩⟩⟩:=h
  exact ⟨v2,v3,v4,v5,v6,rfl,g2,g3,g4,g5,Kd.fix_R g6⟩
theorem k46_mk (w : World) (x : S46) {A2 : Option Addr} {c2 : Nat} (l2 : x.f2.length ≤ c2) (g2 : (Kd.int .i64).C w A2 x.f2.length x.f2) {A3 : Option Addr} {c3 : Nat} (l3 : x.f3.length ≤ c3) (g3 : (Kd.slice 70 k70).C w A3 x.f3.length x.f3) {A4 : Option Addr} {c4 : Nat} (l4 : x.f4.length ≤ c4) (g4 : k70.C w A4 x.f4.length x.f4) {A5 : Option Addr} {c5 : Nat} (l5 : x.f5.length ≤ c5) (g5 : k76.C w A5 x.f5.length x.f5) {A6 : Option Addr} {c6 : Nat} (l6 : x.f6.length ≤ c6) (g6 : k46.C w A6 x.f6.length x.f6) : k46.K w x [.int .i64 x.f0,.int .i64 x.f1,.slice A2 x.f2.length c2,.slice A3 x.f3.length c3,.slice A4 x.f4.length c4,.slice A5 x.f5.length c5,.slice A6 x.f6.length c6]:=by
 obtain ⟨n6,q6⟩:=Kd.fix_C_back mono46 g6;have r6:=Kd.upto_C_le mono46 sz46 (show n6 ≤ n6 by omega) q6
 exact ⟨n6 + 1,⟨[.int .i64 x.f0],[.int .i64 x.f1,.slice A2 x.f2.length c2,.slice A3 x.f3.length c3,.slice A4 x.f4.length c4,.slice A5 x.f5.length c5,.slice A6 x.f6.length c6],rfl,rfl,⟨[.int .i64 x.f1],[.slice A2 x.f2.length c2,.slice A3 x.f3.length c3,.slice A4 x.f4.length c4,.slice A5 x.f5.length c5,.slice A6 x.f6.length c6],rfl,rfl,⟨[.slice A2 x.f2.length c2],[.slice A3 x.f3.length c3,.slice A4 x.f4.length c4,.slice A5 x.f5.length c5,.slice A6 x.f6.length c6],rfl,⟨A2,c2,rfl,l2,g2⟩,⟨[.slice A3 x.f3.length c3],[.slice A4 x.f4.length c4,.slice A5 x.f5.length c5,.slice A6 x.f6.length c6],rfl,⟨A3,c3,rfl,l3,g3⟩,⟨[.slice A4 x.f4.length c4],[.slice A5 x.f5.length c5,.slice A6 x.f6.length c6],rfl,⟨A4,c4,rfl,l4,g4⟩,⟨[.slice A5 x.f5.length c5],[.slice A6 x.f6.length c6],rfl,⟨A5,c5,rfl,l5,g5⟩,⟨A6,c6,rfl,l6,r6⟩⟩⟩⟩⟩⟩⟩⟩
theorem k46_mkM (w : World) (base : Nat) (ok : Nat → Prop) (x : S46) {v2 : Value} (g2 : (Kd.int .i64).R 3 w base ok v2 x.f2) {v3 : Value} (g3 : (Kd.slice 70 k70).R 42 w base ok v3 x.f3) {v4 : Value} (g4 : k70.R 70 w base ok v4 x.f4) {v5 : Value} (g5 : k76.R 76 w base ok v5 x.f5) {v6 : Value} (g6 : k46.R 46 w base ok v6 x.f6) : k46.M w base ok x [.int .i64 x.f0,.int .i64 x.f1,v2,v3,v4,v5,v6]:=by
 obtain ⟨n6,q6⟩:=Kd.fix_R_back mono46 g6;have r6:=Kd.upto_R_le mono46 sz46 (show n6 ≤ n6 by omega) q6
 exact ⟨n6 + 1,⟨[.int .i64 x.f0],[.int .i64 x.f1,v2,v3,v4,v5,v6],rfl,rfl,⟨[.int .i64 x.f1],[v2,v3,v4,v5,v6],rfl,rfl,⟨[v2],[v3,v4,v5,v6],rfl,⟨v2,rfl,g2⟩,⟨[v3],[v4,v5,v6],rfl,⟨v3,rfl,g3⟩,⟨[v4],[v5,v6],rfl,⟨v4,rfl,g4⟩,⟨[v5],[v6],rfl,⟨v5,rfl,g5⟩,⟨v6,rfl,r6⟩⟩⟩⟩⟩⟩⟩⟩
theorem k46_openF {W : World} {ok : Nat → Prop} {x : S46} {cs : List Value} (h : Kd.FK k46 W ok x cs) : ∃ A2 c2 A3 c3 A4 c4 A5 c5 A6 c6,cs = [.int .i64 x.f0,.int .i64 x.f1,.slice A2 x.f2.length c2,.slice A3 x.f3.length c3,.slice A4 x.f4.length c4,.slice A5 x.f5.length c5,.slice A6 x.f6.length c6] ∧ x.f2.length ≤ c2 ∧ Kd.F (Kd.int .i64) W ok A2 x.f2.length x.f2 ∧ x.f3.length ≤ c3 ∧ Kd.F (Kd.slice 70 k70) W ok A3 x.f3.length x.f3 ∧ x.f4.length ≤ c4 ∧ Kd.F k70 W ok A4 x.f4.length x.f4 ∧ x.f5.length ≤ c5 ∧ Kd.F k76 W ok A5 x.f5.length x.f5 ∧ x.f6.length ≤ c6 ∧ Kd.F k46 W ok A6 x.f6.length x.f6:=by
 obtain ⟨A2,c2,A3,c3,A4,c4,A5,c5,A6,c6,rfl,l2,_,l3,_,l4,_,l5,_,l6,_⟩:=k46_open (Kd.FK_now h)
 exact ⟨A2,c2,A3,c3,A4,c4,A5,c5,A6,c6,rfl,l2,(fun W' hW => by obtain ⟨A2_,c2_,A3_,c3_,A4_,c4_,A5_,c5_,A6_,c6_,he,l2_,g2_,l3_,g3_,l4_,g4_,l5_,g5_,l6_,g6_⟩:=k46_open (h W' hW);injection (Option.some.inj (show some (Value.slice A2 x.f2.length c2) = some (Value.slice A2_ x.f2.length c2_) from congrArg (fun l => l[2]?) he)) with ha_ _ _;rw [ha_];exact g2_),l3,(fun W' hW => by obtain ⟨A2_,c2_,A3_,c3_,A4_,c4_,A5_,c5_,A6_,c6_,he,l2_,g2_,l3_,g3_,l4_,g4_,l5_,g5_,l6_,g6_⟩:=k46_open (h W' hW);injection (Option.some.inj (show some (Value.slice A3 x.f3.length c3) = some (Value.slice A3_ x.f3.length c3_) from congrArg (fun l => l[3]?) he)) with ha_ _ _;rw [ha_];exact g3_),l4,(fun W' hW => by obtain ⟨A2_,c2_,A3_,c3_,A4_,c4_,A5_,c5_,A6_,c6_,he,l2_,g2_,l3_,g3_,l4_,g4_,l5_,g5_,l6_,g6_⟩:=k46_open (h W' hW);injection (Option.some.inj (show some (Value.slice A4 x.f4.length c4) = some (Value.slice A4_ x.f4.length c4_) from congrArg (fun l => l[4]?) he)) with ha_ _ _;rw [ha_];exact g4_),l5,(fun W' hW => by obtain ⟨A2_,c2_,A3_,c3_,A4_,c4_,A5_,c5_,A6_,c6_,he,l2_,g2_,l3_,g3_,l4_,g4_,l5_,g5_,l6_,g6_⟩:=k46_open (h W' hW);injection (Option.some.inj (show some (Value.slice A5 x.f5.length c5) = some (Value.slice A5_ x.f5.length c5_) from congrArg (fun l => l[5]?) he)) with ha_ _ _;rw [ha_];exact g5_),l6,(fun W' hW => by obtain ⟨A2_,c2_,A3_,c3_,A4_,c4_,A5_,c5_,A6_,c6_,he,l2_,g2_,l3_,g3_,l4_,g4_,l5_,g5_,l6_,g6_⟩:=k46_open (h W' hW);injection (Option.some.inj (show some (Value.slice A6 x.f6.length c6) = some (Value.slice A6_ x.f6.length c6_) from congrArg (fun l => l[6]?) he)) with ha_ _ _;rw [ha_];exact g6_)⟩
theorem k46_mkF (W : World) (ok : Nat → Prop) (x : S46) {A2 : Option Addr} {c2 : Nat} (l2 : x.f2.length ≤ c2) (g2 : Kd.F (Kd.int .i64) W ok A2 x.f2.length x.f2) {A3 : Option Addr} {c3 : Nat} (l3 : x.f3.length ≤ c3) (g3 : Kd.F (Kd.slice 70 k70) W ok A3 x.f3.length x.f3) {A4 : Option Addr} {c4 : Nat} (l4 : x.f4.length ≤ c4) (g4 : Kd.F k70 W ok A4 x.f4.length x.f4) {A5 : Option Addr} {c5 : Nat} (l5 : x.f5.length ≤ c5) (g5 : Kd.F k76 W ok A5 x.f5.length x.f5) {A6 : Option Addr} {c6 : Nat} (l6 : x.f6.length ≤ c6) (g6 : Kd.F k46 W ok A6 x.f6.length x.f6) : Kd.FK k46 W ok x [.int .i64 x.f0,.int .i64 x.f1,.slice A2 x.f2.length c2,.slice A3 x.f3.length c3,.slice A4 x.f4.length c4,.slice A5 x.f5.length c5,.slice A6 x.f6.length c6]:=fun W2 hW => k46_mk W2 x l2 (g2 W2 hW) l3 (g3 W2 hW) l4 (g4 W2 hW) l5 (g5 W2 hW) l6 (g6 W2 hW)
def rd_T46 (xs : List S46) (i : Int) : S46:=xs.getD i.toNat z46
theorem at_T46 {w : World} {A : Option Addr} {n : Nat} {xs : List S46} (h : Kd.C k46 w A n xs) (i : Int) (h0 : 0 ≤ i) (h1 : i < n) : ∃ ad A2 c2 A3 c3 A4 c4 A5 c5 A6 c6,A = some ad ∧ w.cell? (ad.add (i.toNat * 7)) = some (.int .i64 (rd_T46 xs i).f0) ∧ w.cell? ⟨(ad.add (i.toNat * 7)).block,(ad.add (i.toNat * 7)).off + 1,none⟩ = some (.int .i64 (rd_T46 xs i).f1) ∧ w.cell? ⟨(ad.add (i.toNat * 7)).block,(ad.add (i.toNat * 7)).off + 2,none⟩ = some (.slice A2 (rd_T46 xs i).f2.length c2) ∧ w.cell? ⟨(ad.add (i.toNat * 7)).block,(ad.add (i.toNat * 7)).off + 3,none⟩ = some (.slice A3 (rd_T46 xs i).f3.length c3) ∧ w.cell? ⟨(ad.add (i.toNat * 7)).block,(ad.add (i.toNat * 7)).off + 4,none⟩ = some (.slice A4 (rd_T46 xs i).f4.length c4) ∧ w.cell? ⟨(ad.add (i.toNat * 7)).block,(ad.add (i.toNat * 7)).off + 5,none⟩ = some (.slice A5 (rd_T46 xs i).f5.length c5) ∧ w.cell? ⟨(ad.add (i.toNat * 7)).block,(ad.add (i.toNat * 7)).off + 6,none⟩ = some (.slice A6 (rd_T46 xs i).f6.length c6) ∧ (rd_T46 xs i).f2.length ≤ c2 ∧ (Kd.int .i64).C w A2 (rd_T46 xs i).f2.length (rd_T46 xs i).f2 ∧ (rd_T46 xs i).f3.length ≤ c3 ∧ (Kd.slice 70 k70).C w A3 (rd_T46 xs i).f3.length (rd_T46 xs i).f3 ∧ (rd_T46 xs i).f4.length ≤ c4 ∧ k70.C w A4 (rd_T46 xs i).f4.length (rd_T46 xs i).f4 ∧ (rd_T46 xs i).f5.length ≤ c5 ∧ k76.C w A5 (rd_T46 xs i).f5.length (rd_T46 xs i).f5 ∧ (rd_T46 xs i).f6.length ≤ c6 ∧ k46.C w A6 (rd_T46 xs i).f6.length (rd_T46 xs i).f6:=by
 obtain ⟨ad,c,e,_,hK,hc0⟩:=Kd.C_get h z46 i h0 h1;have hc : ∀ j u,c[j]? = some u → w.cell? (ad.add (i.toNat * 7 + j)) = some u:=hc0;obtain ⟨A2,c2,A3,c3,A4,c4,A5,c5,A6,c6,rfl,l2,g2,l3,g3,l4,g4,l5,g5,l6,g6⟩:=k46_open hK
 exact ⟨ad,A2,c2,A3,c3,A4,c4,A5,c5,A6,c6,e,hc 0 _ rfl,by rw [← add_field _ _ 1 (by omega)];exact hc 1 _ rfl,by rw [← add_field _ _ 2 (by omega)];exact hc 2 _ rfl,by rw [← add_field _ _ 3 (by omega)];exact hc 3 _ rfl,by rw [← add_field _ _ 4 (by omega)];exact hc 4 _ rfl,by rw [← add_field _ _ 5 (by omega)];exact hc 5 _ rfl,by rw [← add_field _ _ 6 (by omega)];exact hc 6 _ rfl,l2,g2,l3,g3,l4,g4,l5,g5,l6,g6⟩
def rd_L13 (xs : List (List S67)) (i : Int) : (List S67):=xs.getD i.toNat ([] : List S67)
theorem at_L13 {w : World} {A : Option Addr} {n : Nat} {xs : List (List S67)} (h : Kd.C (Kd.slice 67 k67) w A n xs) (i : Int) (h0 : 0 ≤ i) (h1 : i < n) : ∃ ad A0 c0,A = some ad ∧ w.cell? (ad.add i.toNat) = some (.slice A0 (rd_L13 xs i).length c0) ∧ (rd_L13 xs i).length ≤ c0 ∧ k67.C w A0 (rd_L13 xs i).length (rd_L13 xs i):=by
 obtain ⟨ad,c,e,_,hK,hc0⟩:=Kd.C_get h ([] : List S67) i h0 h1;have hc : ∀ j u,c[j]? = some u → w.cell? (ad.add (i.toNat * 1 + j)) = some u:=hc0;obtain ⟨A0,c0,rfl,l0,g0⟩:=hK
 exact ⟨ad,A0,c0,e,by have hq:=hc 0 _ rfl;rwa [Nat.mul_one,Nat.add_zero] at hq,l0,g0⟩
def rd_L14 (xs : List (List (List S57))) (i : Int) : (List (List S57)):=xs.getD i.toNat ([] : List (List S57))
theorem at_L14 {w : World} {A : Option Addr} {n : Nat} {xs : List (List (List S57))} (h : Kd.C (Kd.slice 54 (Kd.slice 57 k57)) w A n xs) (i : Int) (h0 : 0 ≤ i) (h1 : i < n) : ∃ ad A0 c0,A = some ad ∧ w.cell? (ad.add i.toNat) = some (.slice A0 (rd_L14 xs i).length c0) ∧ (rd_L14 xs i).length ≤ c0 ∧ (Kd.slice 57 k57).C w A0 (rd_L14 xs i).length (rd_L14 xs i):=by
 obtain ⟨ad,c,e,_,hK,hc0⟩:=Kd.C_get h ([] : List (List S57)) i h0 h1;have hc : ∀ j u,c[j]? = some u → w.cell? (ad.add (i.toNat * 1 + j)) = some u:=hc0;obtain ⟨A0,c0,rfl,l0,g0⟩:=hK
 exact ⟨ad,A0,c0,e,by have hq:=hc 0 _ rfl;rwa [Nat.mul_one,Nat.add_zero] at hq,l0,g0⟩
structure S48 where
 f0 : Int
 f1 : (List S67)
 f2 : (List (List S57))
 f3 : S46
def z48 : S48:=⟨(0 : Int),([] : List S67),([] : List (List S57)),z46⟩
def k48 : Kd S48:=Kd.iso (Kd.pair (Kd.int .i64) (Kd.pair (Kd.slice 67 k67) (Kd.pair (Kd.slice 54 (Kd.slice 57 k57)) k46))) (fun x : S48 => (x.f0,x.f1,x.f2,x.f3))
theorem k48_open {w : World} {x : S48} {cs : List Value} (h : k48.K w x cs) : ∃ A1 c1 A2 c2 A5 c5 A6 c6 A7 c7 A8 c8 A9 c9,cs = [.int .i64 x.f0,.slice A1 x.f1.length c1,.slice A2 x.f2.length c2,.int .i64 x.f3.f0,.int .i64 x.f3.f1,.slice A5 x.f3.f2.length c5,.slice A6 x.f3.f3.length c6,.slice A7 x.f3.f4.length c7,.slice A8 x.f3.f5.length c8,.slice A9 x.f3.f6.length c9] ∧ x.f1.length ≤ c1 ∧ k67.C w A1 x.f1.length x.f1 ∧ x.f2.length ≤ c2 ∧ (Kd.slice 57 k57).C w A2 x.f2.length x.f2 ∧ x.f3.f2.length ≤ c5 ∧ (Kd.int .i64).C w A5 x.f3.f2.length x.f3.f2 ∧ x.f3.f3.length ≤ c6 ∧ (Kd.slice 70 k70).C w A6 x.f3.f3.length x.f3.f3 ∧ x.f3.f4.length ≤ c7 ∧ k70.C w A7 x.f3.f4.length x.f3.f4 ∧ x.f3.f5.length ≤ c8 ∧ k76.C w A8 x.f3.f5.length x.f3.f5 ∧ x.f3.f6.length ≤ c9 ∧ k46.C w A9 x.f3.f6.length x.f3.f6:=by
 obtain ⟨_,_,rfl,rfl,⟨_,_,rfl,⟨A1,c1,rfl,l1,g1⟩,⟨_,_,rfl,⟨A2,c2,rfl,l2,g2⟩,s3⟩⟩⟩:=h;obtain ⟨A5,c5,A6,c6,A7,c7,A8,c8,A9,c9,rfl,l5,g5,l6,g6,l7,g7,l8,g8,l9,g9⟩:=k46_open s3
 exact ⟨A1,c1,A2,c2,A5,c5,A6,c6,A7,c7,A8,c8,A9,c9,rfl,l1,g1,l2,g2,l5,g5,l6,g6,l7,g7,l8,g8,l9,g9⟩
theorem k48_openM {w : World} {base : Nat} {ok : Nat → Prop} {x : S48} {cs : List Value} (h : k48.M w base ok x cs) : ∃ v1 v2 v5 v6 v7 v8 v9,cs = [.int .i64 x.f0,v1,v2,.int .i64 x.f3.f0,.int .i64 x.f3.f1,v5,v6,v7,v8,v9] ∧ k67.R 67 w base ok v1 x.f1 ∧ (Kd.slice 57 k57).R 54 w base ok v2 x.f2 ∧ (Kd.int .i64).R 3 w base ok v5 x.f3.f2 ∧ (Kd.slice 70 k70).R 42 w base ok v6 x.f3.f3 ∧ k70.R 70 w base ok v7 x.f3.f4 ∧ k76.R 76 w base ok v8 x.f3.f5 ∧ k46.R 46 w base ok v9 x.f3.f6:=by
 obtain ⟨_,_,rfl,rfl,⟨_,_,rfl,⟨v1,rfl,g1⟩,⟨_,_,rfl,⟨v2,rfl,g2⟩,s3⟩⟩⟩:=h;obtain ⟨v5,v6,v7,v8,v9,rfl,g5,g6,g7,g8,g9⟩:=k46_openM s3
 exact ⟨v1,v2,v5,v6,v7,v8,v9,rfl,g1,g2,g5,g6,g7,g8,g9⟩
theorem k48_mk (w : World) (x : S48) {A1 : Option Addr} {c1 : Nat} (l1 : x.f1.length ≤ c1) (g1 : k67.C w A1 x.f1.length x.f1) {A2 : Option Addr} {c2 : Nat} (l2 : x.f2.length ≤ c2) (g2 : (Kd.slice 57 k57).C w A2 x.f2.length x.f2) {A5 : Option Addr} {c5 : Nat} (l5 : x.f3.f2.length ≤ c5) (g5 : (Kd.int .i64).C w A5 x.f3.f2.length x.f3.f2) {A6 : Option Addr} {c6 : Nat} (l6 : x.f3.f3.length ≤ c6) (g6 : (Kd.slice 70 k70).C w A6 x.f3.f3.length x.f3.f3) {A7 : Option Addr} {c7 : Nat} (l7 : x.f3.f4.length ≤ c7) (g7 : k70.C w A7 x.f3.f4.length x.f3.f4) {A8 : Option Addr} {c8 : Nat} (l8 : x.f3.f5.length ≤ c8) (g8 : k76.C w A8 x.f3.f5.length x.f3.f5) {A9 : Option Addr} {c9 : Nat} (l9 : x.f3.f6.length ≤ c9) (g9 : k46.C w A9 x.f3.f6.length x.f3.f6) : k48.K w x [.int .i64 x.f0,.slice A1 x.f1.length c1,.slice A2 x.f2.length c2,.int .i64 x.f3.f0,.int .i64 x.f3.f1,.slice A5 x.f3.f2.length c5,.slice A6 x.f3.f3.length c6,.slice A7 x.f3.f4.length c7,.slice A8 x.f3.f5.length c8,.slice A9 x.f3.f6.length c9]:=⟨[.int .i64 x.f0],[.slice A1 x.f1.length c1,.slice A2 x.f2.length c2,.int .i64 x.f3.f0,.int .i64 x.f3.f1,.slice A5 x.f3.f2.length c5,.slice A6 x.f3.f3.length c6,.slice A7 x.f3.f4.length c7,.slice A8 x.f3.f5.length c8,.slice A9 x.f3.f6.length c9],rfl,rfl,⟨[.slice A1 x.f1.length c1],[.slice A2 x.f2.length c2,.int .i64 x.f3.f0,.int .i64 x.f3.f1,.slice A5 x.f3.f2.length c5,.slice A6 x.f3.f3.length c6,.slice A7 x.f3.f4.length c7,.slice A8 x.f3.f5.length c8,.slice A9 x.f3.f6.length c9],rfl,⟨A1,c1,rfl,l1,g1⟩,⟨[.slice A2 x.f2.length c2],[.int .i64 x.f3.f0,.int .i64 x.f3.f1,.slice A5 x.f3.f2.length c5,.slice A6 x.f3.f3.length c6,.slice A7 x.f3.f4.length c7,.slice A8 x.f3.f5.length c8,.slice A9 x.f3.f6.length c9],rfl,⟨A2,c2,rfl,l2,g2⟩,(k46_mk w x.f3 l5 g5 l6 g6 l7 g7 l8 g8 l9 g9)⟩⟩⟩
theorem k48_mkM (w : World) (base : Nat) (ok : Nat → Prop) (x : S48) {v1 : Value} (g1 : k67.R 67 w base ok v1 x.f1) {v2 : Value} (g2 : (Kd.slice 57 k57).R 54 w base ok v2 x.f2) {v5 : Value} (g5 : (Kd.int .i64).R 3 w base ok v5 x.f3.f2) {v6 : Value} (g6 : (Kd.slice 70 k70).R 42 w base ok v6 x.f3.f3) {v7 : Value} (g7 : k70.R 70 w base ok v7 x.f3.f4) {v8 : Value} (g8 : k76.R 76 w base ok v8 x.f3.f5) {v9 : Value} (g9 : k46.R 46 w base ok v9 x.f3.f6) : k48.M w base ok x [.int .i64 x.f0,v1,v2,.int .i64 x.f3.f0,.int .i64 x.f3.f1,v5,v6,v7,v8,v9]:=⟨[.int .i64 x.f0],[v1,v2,.int .i64 x.f3.f0,.int .i64 x.f3.f1,v5,v6,v7,v8,v9],rfl,rfl,⟨[v1],[v2,.int .i64 x.f3.f0,.int .i64 x.f3.f1,v5,v6,v7,v8,v9],rfl,⟨v1,rfl,g1⟩,⟨[v2],[.int .i64 x.f3.f0,.int .i64 x.f3.f1,v5,v6,v7,v8,v9],rfl,⟨v2,rfl,g2⟩,(k46_mkM w base ok x.f3 g5 g6 g7 g8 g9)⟩⟩⟩
theorem k48_openF {W : World} {ok : Nat → Prop} {x : S48} {cs : List Value} (h : Kd.FK k48 W ok x cs) : ∃ A1 c1 A2 c2 A5 c5 A6 c6 A7 c7 A8 c8 A9 c9,cs = [.int .i64 x.f0,.slice A1 x.f1.length c1,.slice A2 x.f2.length c2,.int .i64 x.f3.f0,.int .i64 x.f3.f1,.slice A5 x.f3.f2.length c5,.slice A6 x.f3.f3.length c6,.slice A7 x.f3.f4.length c7,.slice A8 x.f3.f5.length c8,.slice A9 x.f3.f6.length c9] ∧ x.f1.length ≤ c1 ∧ Kd.F k67 W ok A1 x.f1.length x.f1 ∧ x.f2.length ≤ c2 ∧ Kd.F (Kd.slice 57 k57) W ok A2 x.f2.length x.f2 ∧ x.f3.f2.length ≤ c5 ∧ Kd.F (Kd.int .i64) W ok A5 x.f3.f2.length x.f3.f2 ∧ x.f3.f3.length ≤ c6 ∧ Kd.F (Kd.slice 70 k70) W ok A6 x.f3.f3.length x.f3.f3 ∧ x.f3.f4.length ≤ c7 ∧ Kd.F k70 W ok A7 x.f3.f4.length x.f3.f4 ∧ x.f3.f5.length ≤ c8 ∧ Kd.F k76 W ok A8 x.f3.f5.length x.f3.f5 ∧ x.f3.f6.length ≤ c9 ∧ Kd.F k46 W ok A9 x.f3.f6.length x.f3.f6:=by
 obtain ⟨A1,c1,A2,c2,A5,c5,A6,c6,A7,c7,A8,c8,A9,c9,rfl,l1,_,l2,_,l5,_,l6,_,l7,_,l8,_,l9,_⟩:=k48_open (Kd.FK_now h)
 exact ⟨A1,c1,A2,c2,A5,c5,A6,c6,A7,c7,A8,c8,A9,c9,rfl,l1,(fun W' hW => by obtain ⟨A1_,c1_,A2_,c2_,A5_,c5_,A6_,c6_,A7_,c7_,A8_,c8_,A9_,c9_,he,l1_,g1_,l2_,g2_,l5_,g5_,l6_,g6_,l7_,g7_,l8_,g8_,l9_,g9_⟩:=k48_open (h W' hW);injection (Option.some.inj (show some (Value.slice A1 x.f1.length c1) = some (Value.slice A1_ x.f1.length c1_) from congrArg (fun l => l[1]?) he)) with ha_ _ _;rw [ha_];exact g1_),l2,(fun W' hW => by obtain ⟨A1_,c1_,A2_,c2_,A5_,c5_,A6_,c6_,A7_,c7_,A8_,c8_,A9_,c9_,he,l1_,g1_,l2_,g2_,l5_,g5_,l6_,g6_,l7_,g7_,l8_,g8_,l9_,g9_⟩:=k48_open (h W' hW);injection (Option.some.inj (show some (Value.slice A2 x.f2.length c2) = some (Value.slice A2_ x.f2.length c2_) from congrArg (fun l => l[2]?) he)) with ha_ _ _;rw [ha_];exact g2_),l5,(fun W' hW => by obtain ⟨A1_,c1_,A2_,c2_,A5_,c5_,A6_,c6_,A7_,c7_,A8_,c8_,A9_,c9_,he,l1_,g1_,l2_,g2_,l5_,g5_,l6_,g6_,l7_,g7_,l8_,g8_,l9_,g9_⟩:=k48_open (h W' hW);injection (Option.some.inj (show some (Value.slice A5 x.f3.f2.length c5) = some (Value.slice A5_ x.f3.f2.length c5_) from congrArg (fun l => l[5]?) he)) with ha_ _ _;rw [ha_];exact g5_),l6,(fun W' hW => by obtain ⟨A1_,c1_,A2_,c2_,A5_,c5_,A6_,c6_,A7_,c7_,A8_,c8_,A9_,c9_,he,l1_,g1_,l2_,g2_,l5_,g5_,l6_,g6_,l7_,g7_,l8_,g8_,l9_,g9_⟩:=k48_open (h W' hW);injection (Option.some.inj (show some (Value.slice A6 x.f3.f3.length c6) = some (Value.slice A6_ x.f3.f3.length c6_) from congrArg (fun l => l[6]?) he)) with ha_ _ _;rw [ha_];exact g6_),l7,(fun W' hW => by obtain ⟨A1_,c1_,A2_,c2_,A5_,c5_,A6_,c6_,A7_,c7_,A8_,c8_,A9_,c9_,he,l1_,g1_,l2_,g2_,l5_,g5_,l6_,g6_,l7_,g7_,l8_,g8_,l9_,g9_⟩:=k48_open (h W' hW);injection (Option.some.inj (show some (Value.slice A7 x.f3.f4.length c7) = some (Value.slice A7_ x.f3.f4.length c7_) from congrArg (fun l => l[7]?) he)) with ha_ _ _;rw [ha_];exact g7_),l8,(fun W' hW => by obtain ⟨A1_,c1_,A2_,c2_,A5_,c5_,A6_,c6_,A7_,c7_,A8_,c8_,A9_,c9_,he,l1_,g1_,l2_,g2_,l5_,g5_,l6_,g6_,l7_,g7_,l8_,g8_,l9_,g9_⟩:=k48_open (h W' hW);injection (Option.some.inj (show some (Value.slice A8 x.f3.f5.length c8) = some (Value.slice A8_ x.f3.f5.length c8_) from congrArg (fun l => l[8]?) he)) with ha_ _ _;rw [ha_];exact g8_),l9,(fun W' hW => by obtain ⟨A1_,c1_,A2_,c2_,A5_,c5_,A6_,c6_,A7_,c7_,A8_,c8_,A9_,c9_,he,l1_,g1_,l2_,g2_,l5_,g5_,l6_,g6_,l7_,g7_,l8_,g8_,l9_,g9_⟩:=k48_open (h W' hW);injection (Option.some.inj (show some (Value.slice A9 x.f3.f6.length c9) = some (Value.slice A9_ x.f3.f6.length c9_) from congrArg (fun l => l[9]?) he)) with ha_ _ _;rw [ha_];exact g9_)⟩
theorem k48_mkF (W : World) (ok : Nat → Prop) (x : S48) {A1 : Option Addr} {c1 : Nat} (l1 : x.f1.length ≤ c1) (g1 : Kd.F k67 W ok A1 x.f1.length x.f1) {A2 : Option Addr} {c2 : Nat} (l2 : x.f2.length ≤ c2) (g2 : Kd.F (Kd.slice 57 k57) W ok A2 x.f2.length x.f2) {A5 : Option Addr} {c5 : Nat} (l5 : x.f3.f2.length ≤ c5) (g5 : Kd.F (Kd.int .i64) W ok A5 x.f3.f2.length x.f3.f2) {A6 : Option Addr} {c6 : Nat} (l6 : x.f3.f3.length ≤ c6) (g6 : Kd.F (Kd.slice 70 k70) W ok A6 x.f3.f3.length x.f3.f3) {A7 : Option Addr} {c7 : Nat} (l7 : x.f3.f4.length ≤ c7) (g7 : Kd.F k70 W ok A7 x.f3.f4.length x.f3.f4) {A8 : Option Addr} {c8 : Nat} (l8 : x.f3.f5.length ≤ c8) (g8 : Kd.F k76 W ok A8 x.f3.f5.length x.f3.f5) {A9 : Option Addr} {c9 : Nat} (l9 : x.f3.f6.length ≤ c9) (g9 : Kd.F k46 W ok A9 x.f3.f6.length x.f3.f6) : Kd.FK k48 W ok x [.int .i64 x.f0,.slice A1 x.f1.length c1,.slice A2 x.f2.length c2,.int .i64 x.f3.f0,.int .i64 x.f3.f1,.slice A5 x.f3.f2.length c5,.slice A6 x.f3.f3.length c6,.slice A7 x.f3.f4.length c7,.slice A8 x.f3.f5.length c8,.slice A9 x.f3.f6.length c9]:=fun W2 hW => k48_mk W2 x l1 (g1 W2 hW) l2 (g2 W2 hW) l5 (g5 W2 hW) l6 (g6 W2 hW) l7 (g7 W2 hW) l8 (g8 W2 hW) l9 (g9 W2 hW)
def rd_T48 (xs : List S48) (i : Int) : S48:=xs.getD i.toNat z48
theorem at_T48 {w : World} {A : Option Addr} {n : Nat} {xs : List S48} (h : Kd.C k48 w A n xs) (i : Int) (h0 : 0 ≤ i) (h1 : i < n) : ∃ ad A1 c1 A2 c2 A5 c5 A6 c6 A7 c7 A8 c8 A9 c9,A = some ad ∧ w.cell? (ad.add (i.toNat * 10)) = some (.int .i64 (rd_T48 xs i).f0) ∧ w.cell? ⟨(ad.add (i.toNat * 10)).block,(ad.add (i.toNat * 10)).off + 1,none⟩ = some (.slice A1 (rd_T48 xs i).f1.length c1) ∧ w.cell? ⟨(ad.add (i.toNat * 10)).block,(ad.add (i.toNat * 10)).off + 2,none⟩ = some (.slice A2 (rd_T48 xs i).f2.length c2) ∧ w.cell? ⟨(ad.add (i.toNat * 10)).block,(ad.add (i.toNat * 10)).off + 3,none⟩ = some (.int .i64 (rd_T48 xs i).f3.f0) ∧ w.cell? ⟨(ad.add (i.toNat * 10)).block,(ad.add (i.toNat * 10)).off + 4,none⟩ = some (.int .i64 (rd_T48 xs i).f3.f1) ∧ w.cell? ⟨(ad.add (i.toNat * 10)).block,(ad.add (i.toNat * 10)).off + 5,none⟩ = some (.slice A5 (rd_T48 xs i).f3.f2.length c5) ∧ w.cell? ⟨(ad.add (i.toNat * 10)).block,(ad.add (i.toNat * 10)).off + 6,none⟩ = some (.slice A6 (rd_T48 xs i).f3.f3.length c6) ∧ w.cell? ⟨(ad.add (i.toNat * 10)).block,(ad.add (i.toNat * 10)).off + 7,none⟩ = some (.slice A7 (rd_T48 xs i).f3.f4.length c7) ∧ w.cell? ⟨(ad.add (i.toNat * 10)).block,(ad.add (i.toNat * 10)).off + 8,none⟩ = some (.slice A8 (rd_T48 xs i).f3.f5.length c8) ∧ w.cell? ⟨(ad.add (i.toNat * 10)).block,(ad.add (i.toNat * 10)).off + 9,none⟩ = some (.slice A9 (rd_T48 xs i).f3.f6.length c9) ∧ (rd_T48 xs i).f1.length ≤ c1 ∧ k67.C w A1 (rd_T48 xs i).f1.length (rd_T48 xs i).f1 ∧ (rd_T48 xs i).f2.length ≤ c2 ∧ (Kd.slice 57 k57).C w A2 (rd_T48 xs i).f2.length (rd_T48 xs i).f2 ∧ (rd_T48 xs i).f3.f2.length ≤ c5 ∧ (Kd.int .i64).C w A5 (rd_T48 xs i).f3.f2.length (rd_T48 xs i).f3.f2 ∧ (rd_T48 xs i).f3.f3.length ≤ c6 ∧ (Kd.slice 70 k70).C w A6 (rd_T48 xs i).f3.f3.length (rd_T48 xs i).f3.f3 ∧ (rd_T48 xs i).f3.f4.length ≤ c7 ∧ k70.C w A7 (rd_T48 xs i).f3.f4.length (rd_T48 xs i).f3.f4 ∧ (rd_T48 xs i).f3.f5.length ≤ c8 ∧ k76.C w A8 (rd_T48 xs i).f3.f5.length (rd_T48 xs i).f3.f5 ∧ (rd_T48 xs i).f3.f6.length ≤ c9 ∧ k46.C w A9 (rd_T48 xs i).f3.f6.length (rd_T48 xs i).f3.f6:=by
 obtain ⟨ad,c,e,_,hK,hc0⟩:=Kd.C_get h z48 i h0 h1;have hc : ∀ j u,c[j]? = some u → w.cell? (ad.add (i.toNat * 10 + j)) = some u:=hc0;obtain ⟨A1,c1,A2,c2,A5,c5,A6,c6,A7,c7,A8,c8,A9,c9,rfl,l1,g1,l2,g2,l5,g5,l6,g6,l7,g7,l8,g8,l9,g9⟩:=k48_open hK
 exact ⟨ad,A1,c1,A2,c2,A5,c5,A6,c6,A7,c7,A8,c8,A9,c9,e,hc 0 _ rfl,by rw [← add_field _ _ 1 (by omega)];exact hc 1 _ rfl,by rw [← add_field _ _ 2 (by omega)];exact hc 2 _ rfl,by rw [← add_field _ _ 3 (by omega)];exact hc 3 _ rfl,by rw [← add_field _ _ 4 (by omega)];exact hc 4 _ rfl,by rw [← add_field _ _ 5 (by omega)];exact hc 5 _ rfl,by rw [← add_field _ _ 6 (by omega)];exact hc 6 _ rfl,by rw [← add_field _ _ 7 (by omega)];exact hc 7 _ rfl,by rw [← add_field _ _ 8 (by omega)];exact hc 8 _ rfl,by rw [← add_field _ _ 9 (by omega)];exact hc 9 _ rfl,l1,g1,l2,g2,l5,g5,l6,g6,l7,g7,l8,g8,l9,g9⟩
theorem gl {w : World} {g n : Nat} (hg : g = w.heap.size) (h : n ≤ w.heap.size) : n ≤ g:=by
  rw [hg];exact h
theorem odt {p : Prop} [Decidable p] (h : decide p = true:=by first | (with_reducible assumption) | assumption) : p:=of_decide_eq_true h
theorem yH {α : Type} {x y : α} {P : Prop} (q : x = y) (h : x = y → P:=by
  intro q_
  first | (rw [q_];with_reducible exact H) | (have H2_:=(Option.bind_some _ _).symm.trans H;rw [q_];with_reducible exact H2_) | (have H2_:=(Option.bind_some _ _).symm.trans H;with_reducible exact H2_) | with_reducible exact H | (rw [q_];exact H) | exact H) : P:=h q
theorem bS {α β : Type} {x : Option α} {f : α → Option β} {b : β} (h : x.bind f = some b) : ∃ a,x = some a ∧ f a = some b:=Option.bind_eq_some_iff.mp h
theorem cf {W : World} {p a : Addr} {u : Value} {x : Option Value} (h : a.block ≠ p.block) (e : W.cell? a = x) : (W.setCell p u).cell? a = x:=(cell_far h u).trans e
theorem bput {w : World} {g : Nat} {t : TypeId} {cs cs' : Array Value} {i : Nat} {u : Value} (h : w.heap[g]? = some (.cells cs t (0,0))) (e : cs.setIfInBounds i u = cs') : (w.setCell ⟨g,i,none⟩ u).heap[g]? = some (.cells cs' t (0,0)):=blk_put h i u e
theorem bfar {w : World} {g : Nat} {t : TypeId} {cs : Array Value} {p : Addr} {u : Value} (hp : g ≠ p.block) (h : w.heap[g]? = some (.cells cs t (0,0))) : (w.setCell p u).heap[g]? = some (.cells cs t (0,0)):=blk_far h hp u
theorem q2_0 {w : World} {g : Nat} {t : TypeId} {v0 v1 u : Value} (h : w.heap[g]? = some (.cells #[v0,v1] t (0,0))) : (w.setCell ⟨g,0,none⟩ u).heap[g]? = some (.cells #[u,v1] t (0,0)):=blk_put h 0 u rfl
theorem q2_1 {w : World} {g : Nat} {t : TypeId} {v0 v1 u : Value} (h : w.heap[g]? = some (.cells #[v0,v1] t (0,0))) : (w.setCell ⟨g,1,none⟩ u).heap[g]? = some (.cells #[v0,u] t (0,0)):=blk_put h 1 u rfl
theorem q3_0 {w : World} {g : Nat} {t : TypeId} {v0 v1 v2 u : Value} (h : w.heap[g]? = some (.cells #[v0,v1,v2] t (0,0))) : (w.setCell ⟨g,0,none⟩ u).heap[g]? = some (.cells #[u,v1,v2] t (0,0)):=blk_put h 0 u rfl
theorem q3_1 {w : World} {g : Nat} {t : TypeId} {v0 v1 v2 u : Value} (h : w.heap[g]? = some (.cells #[v0,v1,v2] t (0,0))) : (w.setCell ⟨g,1,none⟩ u).heap[g]? = some (.cells #[v0,u,v2] t (0,0)):=blk_put h 1 u rfl
theorem q3_2 {w : World} {g : Nat} {t : TypeId} {v0 v1 v2 u : Value} (h : w.heap[g]? = some (.cells #[v0,v1,v2] t (0,0))) : (w.setCell ⟨g,2,none⟩ u).heap[g]? = some (.cells #[v0,v1,u] t (0,0)):=blk_put h 2 u rfl
theorem q5_0 {w : World} {g : Nat} {t : TypeId} {v0 v1 v2 v3 v4 u : Value} (h : w.heap[g]? = some (.cells #[v0,v1,v2,v3,v4] t (0,0))) : (w.setCell ⟨g,0,none⟩ u).heap[g]? = some (.cells #[u,v1,v2,v3,v4] t (0,0)):=blk_put h 0 u rfl
theorem q5_1 {w : World} {g : Nat} {t : TypeId} {v0 v1 v2 v3 v4 u : Value} (h : w.heap[g]? = some (.cells #[v0,v1,v2,v3,v4] t (0,0))) : (w.setCell ⟨g,1,none⟩ u).heap[g]? = some (.cells #[v0,u,v2,v3,v4] t (0,0)):=blk_put h 1 u rfl
theorem q5_2 {w : World} {g : Nat} {t : TypeId} {v0 v1 v2 v3 v4 u : Value} (h : w.heap[g]? = some (.cells #[v0,v1,v2,v3,v4] t (0,0))) : (w.setCell ⟨g,2,none⟩ u).heap[g]? = some (.cells #[v0,v1,u,v3,v4] t (0,0)):=blk_put h 2 u rfl
theorem q5_3 {w : World} {g : Nat} {t : TypeId} {v0 v1 v2 v3 v4 u : Value} (h : w.heap[g]? = some (.cells #[v0,v1,v2,v3,v4] t (0,0))) : (w.setCell ⟨g,3,none⟩ u).heap[g]? = some (.cells #[v0,v1,v2,u,v4] t (0,0)):=blk_put h 3 u rfl
theorem q5_4 {w : World} {g : Nat} {t : TypeId} {v0 v1 v2 v3 v4 u : Value} (h : w.heap[g]? = some (.cells #[v0,v1,v2,v3,v4] t (0,0))) : (w.setCell ⟨g,4,none⟩ u).heap[g]? = some (.cells #[v0,v1,v2,v3,u] t (0,0)):=blk_put h 4 u rfl
theorem q7_0 {w : World} {g : Nat} {t : TypeId} {v0 v1 v2 v3 v4 v5 v6 u : Value} (h : w.heap[g]? = some (.cells #[v0,v1,v2,v3,v4,v5,v6] t (0,0))) : (w.setCell ⟨g,0,none⟩ u).heap[g]? = some (.cells #[u,v1,v2,v3,v4,v5,v6] t (0,0)):=blk_put h 0 u rfl
theorem q7_1 {w : World} {g : Nat} {t : TypeId} {v0 v1 v2 v3 v4 v5 v6 u : Value} (h : w.heap[g]? = some (.cells #[v0,v1,v2,v3,v4,v5,v6] t (0,0))) : (w.setCell ⟨g,1,none⟩ u).heap[g]? = some (.cells #[v0,u,v2,v3,v4,v5,v6] t (0,0)):=blk_put h 1 u rfl
theorem q7_2 {w : World} {g : Nat} {t : TypeId} {v0 v1 v2 v3 v4 v5 v6 u : Value} (h : w.heap[g]? = some (.cells #[v0,v1,v2,v3,v4,v5,v6] t (0,0))) : (w.setCell ⟨g,2,none⟩ u).heap[g]? = some (.cells #[v0,v1,u,v3,v4,v5,v6] t (0,0)):=blk_put h 2 u rfl
theorem q7_3 {w : World} {g : Nat} {t : TypeId} {v0 v1 v2 v3 v4 v5 v6 u : Value} (h : w.heap[g]? = some (.cells #[v0,v1,v2,v3,v4,v5,v6] t (0,0))) : (w.setCell ⟨g,3,none⟩ u).heap[g]? = some (.cells #[v0,v1,v2,u,v4,v5,v6] t (0,0)):=blk_put h 3 u rfl
theorem q7_4 {w : World} {g : Nat} {t : TypeId} {v0 v1 v2 v3 v4 v5 v6 u : Value} (h : w.heap[g]? = some (.cells #[v0,v1,v2,v3,v4,v5,v6] t (0,0))) : (w.setCell ⟨g,4,none⟩ u).heap[g]? = some (.cells #[v0,v1,v2,v3,u,v5,v6] t (0,0)):=blk_put h 4 u rfl
theorem q7_5 {w : World} {g : Nat} {t : TypeId} {v0 v1 v2 v3 v4 v5 v6 u : Value} (h : w.heap[g]? = some (.cells #[v0,v1,v2,v3,v4,v5,v6] t (0,0))) : (w.setCell ⟨g,5,none⟩ u).heap[g]? = some (.cells #[v0,v1,v2,v3,v4,u,v6] t (0,0)):=blk_put h 5 u rfl
theorem q7_6 {w : World} {g : Nat} {t : TypeId} {v0 v1 v2 v3 v4 v5 v6 u : Value} (h : w.heap[g]? = some (.cells #[v0,v1,v2,v3,v4,v5,v6] t (0,0))) : (w.setCell ⟨g,6,none⟩ u).heap[g]? = some (.cells #[v0,v1,v2,v3,v4,v5,u] t (0,0)):=blk_put h 6 u rfl
theorem q10_0 {w : World} {g : Nat} {t : TypeId} {v0 v1 v2 v3 v4 v5 v6 v7 v8 v9 u : Value} (h : w.heap[g]? = some (.cells #[v0,v1,v2,v3,v4,v5,v6,v7,v8,v9] t (0,0))) : (w.setCell ⟨g,0,none⟩ u).heap[g]? = some (.cells #[u,v1,v2,v3,v4,v5,v6,v7,v8,v9] t (0,0)):=blk_put h 0 u rfl
theorem q10_1 {w : World} {g : Nat} {t : TypeId} {v0 v1 v2 v3 v4 v5 v6 v7 v8 v9 u : Value} (h : w.heap[g]? = some (.cells #[v0,v1,v2,v3,v4,v5,v6,v7,v8,v9] t (0,0))) : (w.setCell ⟨g,1,none⟩ u).heap[g]? = some (.cells #[v0,u,v2,v3,v4,v5,v6,v7,v8,v9] t (0,0)):=blk_put h 1 u rfl
theorem q10_2 {w : World} {g : Nat} {t : TypeId} {v0 v1 v2 v3 v4 v5 v6 v7 v8 v9 u : Value} (h : w.heap[g]? = some (.cells #[v0,v1,v2,v3,v4,v5,v6,v7,v8,v9] t (0,0))) : (w.setCell ⟨g,2,none⟩ u).heap[g]? = some (.cells #[v0,v1,u,v3,v4,v5,v6,v7,v8,v9] t (0,0)):=blk_put h 2 u rfl
theorem q10_3 {w : World} {g : Nat} {t : TypeId} {v0 v1 v2 v3 v4 v5 v6 v7 v8 v9 u : Value} (h : w.heap[g]? = some (.cells #[v0,v1,v2,v3,v4,v5,v6,v7,v8,v9] t (0,0))) : (w.setCell ⟨g,3,none⟩ u).heap[g]? = some (.cells #[v0,v1,v2,u,v4,v5,v6,v7,v8,v9] t (0,0)):=blk_put h 3 u rfl
theorem q10_4 {w : World} {g : Nat} {t : TypeId} {v0 v1 v2 v3 v4 v5 v6 v7 v8 v9 u : Value} (h : w.heap[g]? = some (.cells #[v0,v1,v2,v3,v4,v5,v6,v7,v8,v9] t (0,0))) : (w.setCell ⟨g,4,none⟩ u).heap[g]? = some (.cells #[v0,v1,v2,v3,u,v5,v6,v7,v8,v9] t (0,0)):=blk_put h 4 u rfl
theorem q10_5 {w : World} {g : Nat} {t : TypeId} {v0 v1 v2 v3 v4 v5 v6 v7 v8 v9 u : Value} (h : w.heap[g]? = some (.cells #[v0,v1,v2,v3,v4,v5,v6,v7,v8,v9] t (0,0))) : (w.setCell ⟨g,5,none⟩ u).heap[g]? = some (.cells #[v0,v1,v2,v3,v4,u,v6,v7,v8,v9] t (0,0)):=blk_put h 5 u rfl
theorem q10_6 {w : World} {g : Nat} {t : TypeId} {v0 v1 v2 v3 v4 v5 v6 v7 v8 v9 u : Value} (h : w.heap[g]? = some (.cells #[v0,v1,v2,v3,v4,v5,v6,v7,v8,v9] t (0,0))) : (w.setCell ⟨g,6,none⟩ u).heap[g]? = some (.cells #[v0,v1,v2,v3,v4,v5,u,v7,v8,v9] t (0,0)):=blk_put h 6 u rfl
theorem q10_7 {w : World} {g : Nat} {t : TypeId} {v0 v1 v2 v3 v4 v5 v6 v7 v8 v9 u : Value} (h : w.heap[g]? = some (.cells #[v0,v1,v2,v3,v4,v5,v6,v7,v8,v9] t (0,0))) : (w.setCell ⟨g,7,none⟩ u).heap[g]? = some (.cells #[v0,v1,v2,v3,v4,v5,v6,u,v8,v9] t (0,0)):=blk_put h 7 u rfl
theorem q10_8 {w : World} {g : Nat} {t : TypeId} {v0 v1 v2 v3 v4 v5 v6 v7 v8 v9 u : Value} (h : w.heap[g]? = some (.cells #[v0,v1,v2,v3,v4,v5,v6,v7,v8,v9] t (0,0))) : (w.setCell ⟨g,8,none⟩ u).heap[g]? = some (.cells #[v0,v1,v2,v3,v4,v5,v6,v7,u,v9] t (0,0)):=blk_put h 8 u rfl
theorem q10_9 {w : World} {g : Nat} {t : TypeId} {v0 v1 v2 v3 v4 v5 v6 v7 v8 v9 u : Value} (h : w.heap[g]? = some (.cells #[v0,v1,v2,v3,v4,v5,v6,v7,v8,v9] t (0,0))) : (w.setCell ⟨g,9,none⟩ u).heap[g]? = some (.cells #[v0,v1,v2,v3,v4,v5,v6,v7,v8,u] t (0,0)):=blk_put h 9 u rfl
theorem bp0 {P Q : Prop} (q : Q) (h : Q → P:=by
  intro q_
  repeat (first | (with_reducible first | exact q_ | refine blk_drewN ?_ _ | refine blk_drew ?_ | refine blk_alloc ?_ _ | apply q2_0 | apply q2_1 | apply q3_0 | apply q3_1 | apply q3_2 | apply q5_0 | apply q5_1 | apply q5_2 | apply q5_3 | apply q5_4 | apply q7_0 | apply q7_1 | apply q7_2 | apply q7_3 | apply q7_4 | apply q7_5 | apply q7_6 | apply q10_0 | apply q10_1 | apply q10_2 | apply q10_3 | apply q10_4 | apply q10_5 | apply q10_6 | apply q10_7 | apply q10_8 | apply q10_9 | apply bput) | apply bput | rfl)) : P:=h q
theorem bp1 {P Q R0 : Prop} (q : Q) (r0 : R0) (h : Q → R0 → P:=by
  intro q_ r0_
  repeat (first | (with_reducible first | exact q_ | refine blk_drewN ?_ _ | refine blk_drew ?_ | refine blk_alloc ?_ _ | apply q2_0 | apply q2_1 | apply q3_0 | apply q3_1 | apply q3_2 | apply q5_0 | apply q5_1 | apply q5_2 | apply q5_3 | apply q5_4 | apply q7_0 | apply q7_1 | apply q7_2 | apply q7_3 | apply q7_4 | apply q7_5 | apply q7_6 | apply q10_0 | apply q10_1 | apply q10_2 | apply q10_3 | apply q10_4 | apply q10_5 | apply q10_6 | apply q10_7 | apply q10_8 | apply q10_9 | apply bput | apply bfar (p:=⟨_,_,none⟩) r0_) | apply bput | apply bfar (p:=⟨_,_,none⟩) r0_ | rfl)) : P:=h q r0
theorem be {P : Program} {ops : Array Oper} {Q : Exit → Act → World → Prop} {rest : List Oper} {o : Oper} {a : Act} {W : World} {cs : Array Value} {t : TypeId} (h : ∀ g,g = W.heap.size → ∀ w1,w1.heap[g]? = some (.cells cs t (0,0)) → Below W.heap.size W w1 → wpList P ops Q rest (a.put o.dst (.pointer (some ⟨g,0,none⟩))) w1) (hgd : o.guard = none:=by exact rfl) (hrun : (execOp a.eval o).run P W = .ok (.value (.pointer (some ⟨W.heap.size,0,none⟩))) (W.alloc (.cells cs t (0,0))):=by
  first | (go_simp;done) | (go_simp;rfl)) : wpList P ops Q (o :: rest) a W:=
  Kd.event_run hgd hrun (h _ rfl _ (blk_new W _) (below_alloc (Below.refl _ _) _))
theorem gL {P : Program} {ops : Array Oper} {Q : Exit → Act → World → Prop} {rest : List Oper} {oi : Oper} {a : Act} {w : World} (N : Tmp) {f : FuncId} {fn : Func} {ars : Array Operand} {ts : Array TypeId} (hf : P.funcs[f]? = some fn) (args : Array Value) (h : Calls P f args w fun e w' => ∃ v, e = .returned v ∧ wpList P ops Q rest (a.put (some N) v) w') (hd : oi.dst = some N := by exact rfl) (hg : oi.guard = none := by exact rfl) (hname : (fn.name == "runtime.NumGoroutine") = false := by kernel_rfl) (hb : fn.body.isSome = true := by exact rfl) (hop : oi.op = .call { callee := .value (.func f), args := ars, argTypes := ts } := by exact rfl) (hargs : ars.map a.eval = args := by
  (try simp only [List.map_toArray,List.map_cons,List.map_nil]);first | done | rfl | (simp only [List.length_drop,List.length_take];rfl)) : wpList P ops Q (oi :: rest) a w:=goesL_ (some N) hd hg hf hname hb args hop hargs h
theorem C2 {w : World} {g t : Nat} {v0 v1 : Value} (h : w.heap[g]? = some (.cells #[v0,v1] t (0,0))) : w.cell? ⟨g,0,none⟩ = some v0 ∧ w.cell? ⟨g,1,none⟩ = some v1 ∧ w.frozen? ⟨g,0,none⟩ = false ∧ w.frozen? ⟨g,1,none⟩ = false:=
  ⟨(blk_cell h 0).trans rfl,(blk_cell h 1).trans rfl,blk_frozen h 0,blk_frozen h 1⟩
theorem C3 {w : World} {g t : Nat} {v0 v1 v2 : Value} (h : w.heap[g]? = some (.cells #[v0,v1,v2] t (0,0))) : w.cell? ⟨g,0,none⟩ = some v0 ∧ w.cell? ⟨g,1,none⟩ = some v1 ∧ w.cell? ⟨g,2,none⟩ = some v2 ∧ w.frozen? ⟨g,0,none⟩ = false ∧ w.frozen? ⟨g,1,none⟩ = false ∧ w.frozen? ⟨g,2,none⟩ = false:=
  ⟨(blk_cell h 0).trans rfl,(blk_cell h 1).trans rfl,(blk_cell h 2).trans rfl,blk_frozen h 0,blk_frozen h 1,blk_frozen h 2⟩
theorem C5 {w : World} {g t : Nat} {v0 v1 v2 v3 v4 : Value} (h : w.heap[g]? = some (.cells #[v0,v1,v2,v3,v4] t (0,0))) : w.cell? ⟨g,0,none⟩ = some v0 ∧ w.cell? ⟨g,1,none⟩ = some v1 ∧ w.cell? ⟨g,2,none⟩ = some v2 ∧ w.cell? ⟨g,3,none⟩ = some v3 ∧ w.cell? ⟨g,4,none⟩ = some v4 ∧ w.frozen? ⟨g,0,none⟩ = false ∧ w.frozen? ⟨g,1,none⟩ = false ∧ w.frozen? ⟨g,2,none⟩ = false ∧ w.frozen? ⟨g,3,none⟩ = false ∧ w.frozen? ⟨g,4,none⟩ = false:=
  ⟨(blk_cell h 0).trans rfl,(blk_cell h 1).trans rfl,(blk_cell h 2).trans rfl,(blk_cell h 3).trans rfl,(blk_cell h 4).trans rfl,blk_frozen h 0,blk_frozen h 1,blk_frozen h 2,blk_frozen h 3,blk_frozen h 4⟩
theorem C7 {w : World} {g t : Nat} {v0 v1 v2 v3 v4 v5 v6 : Value} (h : w.heap[g]? = some (.cells #[v0,v1,v2,v3,v4,v5,v6] t (0,0))) : w.cell? ⟨g,0,none⟩ = some v0 ∧ w.cell? ⟨g,1,none⟩ = some v1 ∧ w.cell? ⟨g,2,none⟩ = some v2 ∧ w.cell? ⟨g,3,none⟩ = some v3 ∧ w.cell? ⟨g,4,none⟩ = some v4 ∧ w.cell? ⟨g,5,none⟩ = some v5 ∧ w.cell? ⟨g,6,none⟩ = some v6 ∧ w.frozen? ⟨g,0,none⟩ = false ∧ w.frozen? ⟨g,1,none⟩ = false ∧ w.frozen? ⟨g,2,none⟩ = false ∧ w.frozen? ⟨g,3,none⟩ = false ∧ w.frozen? ⟨g,4,none⟩ = false ∧ w.frozen? ⟨g,5,none⟩ = false ∧ w.frozen? ⟨g,6,none⟩ = false:=
  ⟨(blk_cell h 0).trans rfl,(blk_cell h 1).trans rfl,(blk_cell h 2).trans rfl,(blk_cell h 3).trans rfl,(blk_cell h 4).trans rfl,(blk_cell h 5).trans rfl,(blk_cell h 6).trans rfl,blk_frozen h 0,blk_frozen h 1,blk_frozen h 2,blk_frozen h 3,blk_frozen h 4,blk_frozen h 5,blk_frozen h 6⟩
theorem C10 {w : World} {g t : Nat} {v0 v1 v2 v3 v4 v5 v6 v7 v8 v9 : Value} (h : w.heap[g]? = some (.cells #[v0,v1,v2,v3,v4,v5,v6,v7,v8,v9] t (0,0))) : w.cell? ⟨g,0,none⟩ = some v0 ∧ w.cell? ⟨g,1,none⟩ = some v1 ∧ w.cell? ⟨g,2,none⟩ = some v2 ∧ w.cell? ⟨g,3,none⟩ = some v3 ∧ w.cell? ⟨g,4,none⟩ = some v4 ∧ w.cell? ⟨g,5,none⟩ = some v5 ∧ w.cell? ⟨g,6,none⟩ = some v6 ∧ w.cell? ⟨g,7,none⟩ = some v7 ∧ w.cell? ⟨g,8,none⟩ = some v8 ∧ w.cell? ⟨g,9,none⟩ = some v9 ∧ w.frozen? ⟨g,0,none⟩ = false ∧ w.frozen? ⟨g,1,none⟩ = false ∧ w.frozen? ⟨g,2,none⟩ = false ∧ w.frozen? ⟨g,3,none⟩ = false ∧ w.frozen? ⟨g,4,none⟩ = false ∧ w.frozen? ⟨g,5,none⟩ = false ∧ w.frozen? ⟨g,6,none⟩ = false ∧ w.frozen? ⟨g,7,none⟩ = false ∧ w.frozen? ⟨g,8,none⟩ = false ∧ w.frozen? ⟨g,9,none⟩ = false:=
  ⟨(blk_cell h 0).trans rfl,(blk_cell h 1).trans rfl,(blk_cell h 2).trans rfl,(blk_cell h 3).trans rfl,(blk_cell h 4).trans rfl,(blk_cell h 5).trans rfl,(blk_cell h 6).trans rfl,(blk_cell h 7).trans rfl,(blk_cell h 8).trans rfl,(blk_cell h 9).trans rfl,blk_frozen h 0,blk_frozen h 1,blk_frozen h 2,blk_frozen h 3,blk_frozen h 4,blk_frozen h 5,blk_frozen h 6,blk_frozen h 7,blk_frozen h 8,blk_frozen h 9⟩
theorem Rf {α : Type} {d : Kd α} {e : TypeId} {w : World} {base : Nat} {ok : Nat → Prop} {v : Value} {xs : List α} (h : Kd.R d e w base ok v xs) {p : Addr} {u : Value} (hok : ∀ k,ok k → k ≠ p.block:=by exact fun _ hk => hk.2) : Kd.R d e (w.setCell p u) base ok v xs:=Kd.R_far h hok u
theorem Nf {α : Type} {d : Kd α} {e : TypeId} {w : World} {base : Nat} {ok : Nat → Prop} {v : Value} {xs : List α} (h : Kd.N d e w base ok v xs) {p : Addr} {u : Value} (hok : ∀ k,ok k → k ≠ p.block:=by exact fun _ hk => hk.2) : Kd.N d e (w.setCell p u) base ok v xs:=Kd.N_far h hok u
abbrev T : Bool:=true
abbrev F : Bool:=false
theorem A_ {p : Prop} (h : p) : Aside0 p:=Aside0.mk h
theorem ZC {w w' : World} {a : Addr} {v : Value} (hb : Below w.heap.size w w') (h : w.cell? a = some v) : w'.cell? a = some v:=(hb.cell (World.block_lt_of_cell? w _ h)).trans h
theorem ZA {P : Prop} (h : P:=by exact any_of HT_.out (by kernel_rfl)) : P:=h
theorem ZF {P : Prop} (h : P:=by exact fun _ _ _ h => h) : P:=h
theorem Z0 {P : Prop} (h : P:=by
  simp only [Act.put,List.setIfInBounds_toArray,List.set_cons_zero,List.set_cons_succ,i64_w,i32_w]
  rfl) : P:=h
theorem Z1 {P Q : Prop} (q : Q) (h : Q → P:=by
  intro q_
  (with_reducible repeat (first | refine blk_drewN ?_ _ | refine blk_drew ?_ | refine blk_alloc ?_ _));exact q_) : P:=h q
theorem Z2 {P : Prop} (h : P:=by
  repeat (first | (with_reducible first | exact HB.out | apply below_alloc | apply pw_below_drewN | apply below_drew1) | exact HB.out)) : P:=h
theorem Z3 {P Q : Prop} (q : Q) (h : Q → P:=by
  intro q_
  repeat (first | (with_reducible first | exact HB.out | apply below_alloc | apply pw_below_drewN | apply below_drew1 | refine below_set ?_ q_) | exact HB.out)) : P:=h q
theorem Z4 {P Q R : Prop} (q : Q) (r : R) (h : Q → R → P:=by
  intro q_ r_
  repeat (first | (with_reducible first | exact HK.out | apply KeepBut.set_ | apply keep_drewN | apply keep_drew | apply keep_alloc | refine keep_far ?_ q_ _ | refine keep_far ?_ r_ _) | exact HK.out)) : P:=h q r
theorem Z5 {P : Prop} (h : P:=by
  repeat (first | (with_reducible first | exact HK.out | apply KeepBut.set_ | apply keep_drewN | apply keep_drew | apply keep_alloc) | exact HK.out)) : P:=h
theorem Z6 {P Q : Prop} (q : Q) (h : Q → P:=by
  intro q_
  (with_reducible repeat (first | refine blk_drewN ?_ _ | refine blk_drew ?_ | refine blk_alloc ?_ _));refine blk_put (cs:=#[.int .i64 ((rd_T48 l0 a1).f0),.slice A955_1 ((rd_T48 l0 a1).f1).length c955_1,.slice A955_2 ((rd_T48 l0 a1).f2).length c955_2,.int .i64 ((rd_T48 l0 a1).f3.f0),.int .i64 ((rd_T48 l0 a1).f3.f1),.slice A955_5 ((rd_T48 l0 a1).f3.f2).length c955_5,.slice A955_6 ((rd_T48 l0 a1).f3.f3).length c955_6,.slice A955_7 ((rd_T48 l0 a1).f3.f4).length c955_7,.slice A955_8 ((rd_T48 l0 a1).f3.f5).length c955_8,.slice none 0 0]) ?_ 9 _ rfl;(with_reducible repeat (first | refine blk_drewN ?_ _ | refine blk_drew ?_ | refine blk_alloc ?_ _));refine blk_put (cs:=#[.int .i64 ((rd_T48 l0 a1).f0),.slice A955_1 ((rd_T48 l0 a1).f1).length c955_1,.slice A955_2 ((rd_T48 l0 a1).f2).length c955_2,.int .i64 ((rd_T48 l0 a1).f3.f0),.int .i64 ((rd_T48 l0 a1).f3.f1),.slice A955_5 ((rd_T48 l0 a1).f3.f2).length c955_5,.slice A955_6 ((rd_T48 l0 a1).f3.f3).length c955_6,.slice A955_7 ((rd_T48 l0 a1).f3.f4).length c955_7,.slice none 0 0,.slice none 0 0]) ?_ 8 _ rfl;(with_reducible repeat (first | refine blk_drewN ?_ _ | refine blk_drew ?_ | refine blk_alloc ?_ _));refine blk_put (cs:=#[.int .i64 ((rd_T48 l0 a1).f0),.slice A955_1 ((rd_T48 l0 a1).f1).length c955_1,.slice A955_2 ((rd_T48 l0 a1).f2).length c955_2,.int .i64 ((rd_T48 l0 a1).f3.f0),.int .i64 ((rd_T48 l0 a1).f3.f1),.slice A955_5 ((rd_T48 l0 a1).f3.f2).length c955_5,.slice A955_6 ((rd_T48 l0 a1).f3.f3).length c955_6,.slice none 0 0,.slice none 0 0,.slice none 0 0]) ?_ 7 _ rfl;(with_reducible repeat (first | refine blk_drewN ?_ _ | refine blk_drew ?_ | refine blk_alloc ?_ _));refine blk_put (cs:=#[.int .i64 ((rd_T48 l0 a1).f0),.slice A955_1 ((rd_T48 l0 a1).f1).length c955_1,.slice A955_2 ((rd_T48 l0 a1).f2).length c955_2,.int .i64 ((rd_T48 l0 a1).f3.f0),.int .i64 ((rd_T48 l0 a1).f3.f1),.slice A955_5 ((rd_T48 l0 a1).f3.f2).length c955_5,.slice none 0 0,.slice none 0 0,.slice none 0 0,.slice none 0 0]) ?_ 6 _ rfl;(with_reducible repeat (first | refine blk_drewN ?_ _ | refine blk_drew ?_ | refine blk_alloc ?_ _));refine blk_put (cs:=#[.int .i64 ((rd_T48 l0 a1).f0),.slice A955_1 ((rd_T48 l0 a1).f1).length c955_1,.slice A955_2 ((rd_T48 l0 a1).f2).length c955_2,.int .i64 ((rd_T48 l0 a1).f3.f0),.int .i64 ((rd_T48 l0 a1).f3.f1),.slice none 0 0,.slice none 0 0,.slice none 0 0,.slice none 0 0,.slice none 0 0]) ?_ 5 _ rfl;(with_reducible repeat (first | refine blk_drewN ?_ _ | refine blk_drew ?_ | refine blk_alloc ?_ _));refine blk_put (cs:=#[.int .i64 ((rd_T48 l0 a1).f0),.slice A955_1 ((rd_T48 l0 a1).f1).length c955_1,.slice A955_2 ((rd_T48 l0 a1).f2).length c955_2,.int .i64 ((rd_T48 l0 a1).f3.f0),.int .i64 0,.slice none 0 0,.slice none 0 0,.slice none 0 0,.slice none 0 0,.slice none 0 0]) ?_ 4 _ rfl;(with_reducible repeat (first | refine blk_drewN ?_ _ | refine blk_drew ?_ | refine blk_alloc ?_ _));refine blk_put (cs:=#[.int .i64 ((rd_T48 l0 a1).f0),.slice A955_1 ((rd_T48 l0 a1).f1).length c955_1,.slice A955_2 ((rd_T48 l0 a1).f2).length c955_2,.int .i64 0,.int .i64 0,.slice none 0 0,.slice none 0 0,.slice none 0 0,.slice none 0 0,.slice none 0 0]) ?_ 3 _ rfl;(with_reducible repeat (first | refine blk_drewN ?_ _ | refine blk_drew ?_ | refine blk_alloc ?_ _));refine blk_put (cs:=#[.int .i64 ((rd_T48 l0 a1).f0),.slice A955_1 ((rd_T48 l0 a1).f1).length c955_1,.slice none 0 0,.int .i64 0,.int .i64 0,.slice none 0 0,.slice none 0 0,.slice none 0 0,.slice none 0 0,.slice none 0 0]) ?_ 2 _ rfl;(with_reducible repeat (first | refine blk_drewN ?_ _ | refine blk_drew ?_ | refine blk_alloc ?_ _));refine blk_put (cs:=#[.int .i64 ((rd_T48 l0 a1).f0),.slice none 0 0,.slice none 0 0,.int .i64 0,.int .i64 0,.slice none 0 0,.slice none 0 0,.slice none 0 0,.slice none 0 0,.slice none 0 0]) ?_ 1 _ rfl;(with_reducible repeat (first | refine blk_drewN ?_ _ | refine blk_drew ?_ | refine blk_alloc ?_ _));refine blk_put (cs:=#[.int .i64 0,.slice none 0 0,.slice none 0 0,.int .i64 0,.int .i64 0,.slice none 0 0,.slice none 0 0,.slice none 0 0,.slice none 0 0,.slice none 0 0]) ?_ 0 _ rfl;(with_reducible repeat (first | refine blk_drewN ?_ _ | refine blk_drew ?_ | refine blk_alloc ?_ _));exact q_) : P:=h q
theorem Z7 {P Q : Prop} (q : Q) (h : Q → P:=by
  intro q_
  repeat (first | (with_reducible first | exact q_ | apply IsS52.alloc | apply IsS52.drewN | apply IsS52.drew | apply IsS52.set_1 | apply IsS52.set_2) | exact q_)) : P:=h q
theorem Z8 {P Q R : Prop} (q : Q) (r : R) (h : Q → R → P:=by
  intro q_ r_
  repeat (first | (with_reducible first | exact HB.out | apply below_alloc | apply pw_below_drewN | apply below_drew1 | refine below_set ?_ q_ | refine below_set ?_ r_) | exact HB.out)) : P:=h q r
theorem Z9 {P Q : Prop} (q : Q) (h : Q → P:=by
  intro q_
  repeat (first | exact (Kd.C_below q_ HB.out) | (with_reducible refine Kd.C_alloc ?_ _) | (with_reducible refine Kd.C_drewN ?_ _) | (with_reducible refine Kd.C_drew ?_))) : P:=h q
theorem Z10 {P Q : Prop} (q : Q) (h : Q → P:=by
  intro q_
  repeat (first | (with_reducible first | exact HB.out | apply below_alloc | apply pw_below_drewN | apply below_drew1 | refine below_set ?_ (IsS52.ge q_)) | exact HB.out)) : P:=h q
theorem Z11 {P : Prop} (h : P:=by
  repeat (first | (with_reducible first | exact HI0.out | apply IsS52.alloc | apply IsS52.drewN | apply IsS52.drew | apply IsS52.set_1 | apply IsS52.set_2 | refine IsS52.far ?_ NB0_687.out _ | refine IsS52.far ?_ NB0_689.out _) | exact HI0.out)) : P:=h
theorem Z12 {P : Prop} (h : P:=by
  first | rfl | (simp [errW_none,errW_some] <;> rfl) | (simp [*,errW_none,errW_some] <;> rfl)) : P:=h
theorem Z13 {P Q R : Prop} (q : Q) (r : R) (h : Q → R → P:=by
  intro q_ r_
  repeat (first | (with_reducible first | exact q_ | apply IsS52.alloc | apply IsS52.drewN | apply IsS52.drew | apply IsS52.set_1 | apply IsS52.set_2 | refine IsS52.far ?_ r_ _) | exact q_)) : P:=h q r
theorem Z14 {P Q R : Prop} (q : Q) (r : R) (h : Q → R → P:=by
  intro q_ r_
  (with_reducible repeat (first | refine blk_drewN ?_ _ | refine blk_drew ?_ | refine blk_alloc ?_ _));refine blk_far ?_ q_ _;(with_reducible repeat (first | refine blk_drewN ?_ _ | refine blk_drew ?_ | refine blk_alloc ?_ _));refine blk_far ?_ q_ _;(with_reducible repeat (first | refine blk_drewN ?_ _ | refine blk_drew ?_ | refine blk_alloc ?_ _));refine blk_far ?_ q_ _;(with_reducible repeat (first | refine blk_drewN ?_ _ | refine blk_drew ?_ | refine blk_alloc ?_ _));refine blk_far ?_ q_ _;(with_reducible repeat (first | refine blk_drewN ?_ _ | refine blk_drew ?_ | refine blk_alloc ?_ _));refine blk_far ?_ q_ _;(with_reducible repeat (first | refine blk_drewN ?_ _ | refine blk_drew ?_ | refine blk_alloc ?_ _));refine blk_far ?_ q_ _;(with_reducible repeat (first | refine blk_drewN ?_ _ | refine blk_drew ?_ | refine blk_alloc ?_ _));refine blk_far ?_ q_ _;(with_reducible repeat (first | refine blk_drewN ?_ _ | refine blk_drew ?_ | refine blk_alloc ?_ _));exact r_) : P:=h q r
theorem Z15 {P Q R : Prop} (q : Q) (r : R) (h : Q → R → P:=by
  intro q_ r_
  (with_reducible repeat (first | refine blk_drewN ?_ _ | refine blk_drew ?_ | refine blk_alloc ?_ _));refine blk_far ?_ q_ _;(with_reducible repeat (first | refine blk_drewN ?_ _ | refine blk_drew ?_ | refine blk_alloc ?_ _));refine blk_far ?_ q_ _;(with_reducible repeat (first | refine blk_drewN ?_ _ | refine blk_drew ?_ | refine blk_alloc ?_ _));refine blk_far ?_ q_ _;(with_reducible repeat (first | refine blk_drewN ?_ _ | refine blk_drew ?_ | refine blk_alloc ?_ _));refine blk_far ?_ q_ _;(with_reducible repeat (first | refine blk_drewN ?_ _ | refine blk_drew ?_ | refine blk_alloc ?_ _));refine blk_far ?_ q_ _;(with_reducible repeat (first | refine blk_drewN ?_ _ | refine blk_drew ?_ | refine blk_alloc ?_ _));refine blk_far ?_ q_ _;(with_reducible repeat (first | refine blk_drewN ?_ _ | refine blk_drew ?_ | refine blk_alloc ?_ _));refine blk_far ?_ q_ _;(with_reducible repeat (first | refine blk_drewN ?_ _ | refine blk_drew ?_ | refine blk_alloc ?_ _));refine blk_far ?_ q_ _;(with_reducible repeat (first | refine blk_drewN ?_ _ | refine blk_drew ?_ | refine blk_alloc ?_ _));refine blk_far ?_ q_ _;(with_reducible repeat (first | refine blk_drewN ?_ _ | refine blk_drew ?_ | refine blk_alloc ?_ _));refine blk_far ?_ q_ _;(with_reducible repeat (first | refine blk_drewN ?_ _ | refine blk_drew ?_ | refine blk_alloc ?_ _));exact r_) : P:=h q r
theorem Z16 {P Q : Prop} (q : Q) (h : Q → P:=by
  intro q_
  repeat (first | (with_reducible first | exact HK.out | apply KeepBut.set_ | apply keep_drewN | apply keep_drew | apply keep_alloc | refine keep_far ?_ q_ _) | exact HK.out)) : P:=h q
theorem Z17 {P Q : Prop} (q : Q) (h : Q → P:=by
  intro q_
  (with_reducible repeat (first | apply Kd.R_alloc | apply Kd.R_drewN | apply Kd.R_drew));exact q_) : P:=h q
theorem Z18 {P : Prop} (h : P:=by
  intro w'
  go_simp
  with_reducible rfl) : P:=h
theorem Z19 {P Q R : Prop} (q : Q) (r : R) (h : Q → R → P:=by
  intro q_ r_
  repeat (first | (with_reducible first | exact HB.out | apply below_alloc | apply pw_below_drewN | apply below_drew1 | refine below_set ?_ (IsS52.ge q_) | refine below_set ?_ r_) | exact HB.out)) : P:=h q r
theorem Z20 {P : Prop} (h : P:=by
  repeat (first | (with_reducible first | exact HB.out | apply below_alloc | apply pw_below_drewN | apply below_drew1 | refine below_set ?_ (IsS52.ge HI0.out) | refine below_set ?_ GE687.out | refine below_set ?_ GE689.out) | exact HB.out)) : P:=h
theorem Z21 {P Q : Prop} (q : Q) (h : Q → P:=by
  intro q_
  (with_reducible repeat (first | apply Kd.N_alloc | apply Kd.N_drewN | apply Kd.N_drew));exact q_) : P:=h q
theorem Z22 {P : Prop} (h : P:=by
  first | rfl | (simp;done) | (simp [*];done)) : P:=h
theorem Z23 {P : Prop} (h : P:=by
  repeat (first | (with_reducible first | exact HK.out | apply KeepBut.set_ | apply keep_drewN | apply keep_drew | apply keep_alloc | refine keep_far ?_ GW687.out _ | refine keep_far ?_ GW689.out _ | refine keep_far ?_ GW790.out _) | exact HK.out)) : P:=h
theorem Z24 {P : Prop} (h : P:=by
  repeat (first | (with_reducible first | exact HI0.out | apply IsS52.alloc | apply IsS52.drewN | apply IsS52.drew | apply IsS52.set_1 | apply IsS52.set_2 | refine IsS52.far ?_ NB0_687.out _ | refine IsS52.far ?_ NB0_689.out _ | refine IsS52.far ?_ NB0_790.out _) | exact HI0.out)) : P:=h
theorem Z25 {P : Prop} (h : P:=by
  (try simp only [List.map_toArray,List.map_cons,List.map_nil]);first | done | rfl | (simp only [List.length_drop,List.length_take];rfl)) : P:=h
theorem Z26 {P Q R : Prop} (q : Q) (r : R) (h : Q → R → P:=by
  intro q_ r_
  (with_reducible repeat (first | refine blk_drewN ?_ _ | refine blk_drew ?_ | refine blk_alloc ?_ _));refine blk_far ?_ q_ _;(with_reducible repeat (first | refine blk_drewN ?_ _ | refine blk_drew ?_ | refine blk_alloc ?_ _));refine blk_far ?_ q_ _;(with_reducible repeat (first | refine blk_drewN ?_ _ | refine blk_drew ?_ | refine blk_alloc ?_ _));exact r_) : P:=h q r
theorem Z27 {P : Prop} (h : P:=by
  repeat (first | (with_reducible first | exact HB.out | apply below_alloc | apply pw_below_drewN | apply below_drew1 | refine below_set ?_ (IsS52.ge HI0.out) | refine below_set ?_ GE687.out | refine below_set ?_ GE689.out | refine below_set ?_ GE790.out) | exact HB.out)) : P:=h
theorem Z28 {P Q R : Prop} (q : Q) (r : R) (h : Q → R → P:=by
  intro q_ r_
  first | (rw [add_block];exact Kd.own_blk (IsS52.own_neN q_ r_ (by decide))) | (show (Addr.add _ _).block ≠ _;rw [add_block];exact Kd.own_blk (IsS52.own_neN q_ r_ (by decide))) | exact Kd.own_blk (IsS52.own_neN q_ r_ (by decide))) : P:=h q r
theorem Z29 {P : Prop} (h : P:=by
  first | exact Kd.R_nil _ _ _ _ _ | exact Kd.N_nil _ _ _ _ _ | exact Kd.V_nil _ _ _ _ _ | exact Kd.Q_nil _ _ _ _ _ | exact Kd.S_nil _ _ _ _ _) : P:=h
theorem Z30 {P : Prop} (h : P:=by
  repeat (first | (with_reducible first | exact HK.out | apply KeepBut.set_ | apply keep_drewN | apply keep_drew | apply keep_alloc | refine keep_far ?_ GW687.out _ | refine keep_far ?_ GW689.out _ | refine keep_far ?_ GW742.out _) | exact HK.out)) : P:=h
theorem Z31 {P : Prop} (h : P:=by
  repeat (first | (with_reducible first | exact HB.out | apply below_alloc | apply pw_below_drewN | apply below_drew1 | refine below_set ?_ GE954.out | refine below_set ?_ GE956.out | refine below_set ?_ GE974.out) | exact HB.out)) : P:=h
theorem Z32 {P Q : Prop} (q : Q) (h : Q → P:=by
  intro q_
  repeat (first | exact (Kd.R_reads' q_).2.2 | (with_reducible refine Kd.C_alloc ?_ _) | (with_reducible refine Kd.C_drewN ?_ _) | (with_reducible refine Kd.C_drew ?_))) : P:=h q
theorem Z33 {P : Prop} (h : P:=by
  repeat (first | (with_reducible first | exact HB.out | apply below_alloc | apply pw_below_drewN | apply below_drew1 | refine below_set ?_ GE954.out | refine below_set ?_ GE956.out | refine below_set ?_ GE962.out) | exact HB.out)) : P:=h
theorem Z34 {P : Prop} (h : P:=by
  repeat (first | exact Drawn0.refl _ | apply Drawn0.step)) : P:=h
theorem Z35 {P Q : Prop} (q : Q) (h : Q → P:=by
  intro q_
  (with_reducible repeat (first | apply Kd.V_alloc | apply Kd.V_drewN | apply Kd.V_drew));exact q_) : P:=h q
theorem Z36 {P Q : Prop} (q : Q) (h : Q → P:=by
  intro q_
  (with_reducible repeat (first | refine blk_drewN ?_ _ | refine blk_drew ?_ | refine blk_alloc ?_ _));refine blk_put (cs:=#[.int .i64 ((rd_T76 l2_5 x113_4).f0),.int .i64 0]) ?_ 1 _ rfl;(with_reducible repeat (first | refine blk_drewN ?_ _ | refine blk_drew ?_ | refine blk_alloc ?_ _));refine blk_put (cs:=#[.int .i64 0,.int .i64 0]) ?_ 0 _ rfl;(with_reducible repeat (first | refine blk_drewN ?_ _ | refine blk_drew ?_ | refine blk_alloc ?_ _));exact q_) : P:=h q
theorem Z37 {P Q : Prop} (q : Q) (h : Q → P:=by
  intro q_
  repeat (first | (with_reducible first | exact HK.out | apply Kept.alloc | apply Kept.drewN | apply Kept.drew | refine Kept.setCell ?_ (.inr q_) _) | exact HK.out)) : P:=h q
theorem Z38 {P Q R : Prop} (q : Q) (r : R) (h : Q → R → P:=by
  intro q_ r_
  (with_reducible repeat (first | refine blk_drewN ?_ _ | refine blk_drew ?_ | refine blk_alloc ?_ _));refine blk_far ?_ q_ _;(with_reducible repeat (first | refine blk_drewN ?_ _ | refine blk_drew ?_ | refine blk_alloc ?_ _));exact r_) : P:=h q r
theorem Z39 {P : Prop} (h : P:=by
  rintro w' ⟨s0,s1,s2,s3,s4,s5,s6,s7,s8,s9,s10,s11,s12,s13,s14,s15,s16⟩
  go_simp
  with_reducible rfl) : P:=h
theorem Z40 {P : Prop} (h : P:=by
  repeat (first | (with_reducible first | exact HK.out | apply KeepBut.set_ | apply keep_drewN | apply keep_drew | apply keep_alloc | refine keep_far ?_ GW687.out _ | refine keep_far ?_ GW689.out _ | refine keep_far ?_ GW730.out _) | exact HK.out)) : P:=h
theorem Z41 {P : Prop} (h : P:=by
  repeat (first | (with_reducible first | exact HI0.out | apply IsS52.alloc | apply IsS52.drewN | apply IsS52.drew | apply IsS52.set_1 | apply IsS52.set_2 | refine IsS52.far ?_ NB0_687.out _ | refine IsS52.far ?_ NB0_689.out _ | refine IsS52.far ?_ NB0_742.out _) | exact HI0.out)) : P:=h
theorem Z42 {P : Prop} (h : P:=by
  rintro w' ⟨s0,s1,s2,s3,s4,s5,s6,s7,s8,s9,s10,s11,s12,s13,s14,s15,s16,s17,s18,s19,s20⟩
  go_simp
  with_reducible rfl) : P:=h
theorem Z43 {P Q : Prop} (q : Q) (h : Q → P:=by
  intro q_
  repeat (first | exact (Kd.N_reads' q_).2.2 | (with_reducible refine Kd.C_alloc ?_ _) | (with_reducible refine Kd.C_drewN ?_ _) | (with_reducible refine Kd.C_drew ?_))) : P:=h q
theorem Z44 {P : Prop} (h : P:=by
  repeat (first | (with_reducible first | exact HI0.out | apply IsS52.alloc | apply IsS52.drewN | apply IsS52.drew | apply IsS52.set_1 | apply IsS52.set_2 | refine IsS52.far ?_ NB0_687.out _ | refine IsS52.far ?_ NB0_689.out _ | refine IsS52.far ?_ NB0_730.out _) | exact HI0.out)) : P:=h
theorem Z45 {P : Prop} (h : P:=by
  repeat (first | (with_reducible first | exact HB.out | apply below_alloc | apply pw_below_drewN | apply below_drew1 | refine below_set ?_ (IsS52.ge HI0.out) | refine below_set ?_ GE687.out | refine below_set ?_ GE689.out | refine below_set ?_ GE742.out) | exact HB.out)) : P:=h
theorem Z46 {P : Prop} (h : P:=by
  repeat (first | (with_reducible first | exact HB.out | apply below_alloc | apply pw_below_drewN | apply below_drew1 | refine below_set ?_ (IsS52.ge HI0.out) | refine below_set ?_ GE687.out | refine below_set ?_ GE689.out | refine below_set ?_ GE730.out) | exact HB.out)) : P:=h
theorem Z47 {P : Prop} (h : P:=by
  first | omega | exact Nat.le_refl _) : P:=h
theorem Z48 {P : Prop} (h : P:=by
  (try have h0_:=HK2.out);(try have h1_:=HK3.out);(try have h2_:=HJ22.out);(try have h3_:=HJ93.out);(try have h4_:=HJ195.out);omega) : P:=h
theorem Z49 {P : Prop} (h : P:=by
  repeat (first | (with_reducible first | exact HI0.out | apply IsS52.alloc | apply IsS52.drewN | apply IsS52.drew | apply IsS52.set_1 | apply IsS52.set_2 | refine IsS52.far ?_ NB0_224.out _ | refine IsS52.far ?_ NB0_230.out _) | exact HI0.out)) : P:=h
theorem Z50 {P : Prop} (h : P:=by
  repeat (first | (with_reducible first | exact HB.out | apply below_alloc | apply pw_below_drewN | apply below_drew1 | refine below_set ?_ (IsS52.ge HI0.out) | refine below_set ?_ GE224.out | refine below_set ?_ GE230.out) | exact HB.out)) : P:=h
theorem Z51 {P : Prop} (h : P:=by
  first | (go_simp;done) | (go_simp;rfl)) : P:=h
theorem Z52 {P : Prop} (h : P:=by
  show Act.put _ (some 120) _ = _
  simp only [Act.put,List.setIfInBounds_toArray,List.set_cons_zero,List.set_cons_succ,i64_w,i32_w]
  rfl) : P:=h
theorem Z53 {P Q : Prop} (q : Q) (h : Q → P:=by
  intro q_
  (with_reducible repeat (first | apply Kd.N_alloc | apply Kd.N_drewN | apply Kd.N_drew));exact (Kd.N_mono (Nf (Nf (Nf (Nf (Nf (Nf (Nf (Kd.N_mono q_ (fun k_ hk => (⟨hk,hk.2⟩ : _ ∧ k_ ≠ gb730)))))))))) (fun _ h_ => h_.1))) : P:=h q
theorem Z54 {P Q R : Prop} (q : Q) (r : R) (h : Q → R → P:=by
  intro q_ r_
  (with_reducible repeat (first | apply Kd.R_alloc | apply Kd.R_drewN | apply Kd.R_drew));exact Kd.R_mono (Rf (Kd.R_types q_ r_ (by decide))) (fun _ hk => hk.1)) : P:=h q r
theorem Z55 {P Q : Prop} (q : Q) (h : Q → P:=by
  intro q_
  (with_reducible repeat (first | apply Kd.R_alloc | apply Kd.R_drewN | apply Kd.R_drew));exact Kd.R_mono q_ (fun _ hk => trivial)) : P:=h q
theorem Z56 {P : Prop} (h : P:=by
  show (Addr.add _ _).block ≠ _;rw [add_block];exact hne) : P:=h
theorem Z57 {P : Prop} (h : P:=by
  show Act.put _ (some 17) _ = _
  simp only [Act.put,List.setIfInBounds_toArray,List.set_cons_zero,List.set_cons_succ,i64_w,i32_w]
  rfl) : P:=h
theorem Z58 {P Q : Prop} (q : Q) (h : Q → P:=by
  intro q_
  (with_reducible repeat (first | apply Kd.N_alloc | apply Kd.N_drewN | apply Kd.N_drew));exact Kd.N_mono q_ (fun _ hk => hk.1)) : P:=h q
theorem Z59 {P : Prop} (h : P:=by
  rintro w' ⟨s0,s1,s2,s3⟩
  go_simp
  with_reducible rfl) : P:=h
theorem Z60 {P : Prop} (h : P:=by
  rintro w' ⟨s0,s1,s2,s3,s4,s5,s6⟩
  go_simp
  with_reducible rfl) : P:=h
theorem Z61 {P Q : Prop} (q : Q) (h : Q → P:=by
  intro q_
  repeat (first | exact q_ | (with_reducible refine Kd.C_alloc ?_ _) | (with_reducible refine Kd.C_drewN ?_ _) | (with_reducible refine Kd.C_drew ?_))) : P:=h q
theorem Z62 {P : Prop} (h : P:=by
  rintro w' ⟨s0,s1,s2,s3,s4,s5,s6,s7⟩
  go_simp
  with_reducible rfl) : P:=h
theorem Z63 {P : Prop} (h : P:=by
  show Act.put _ (some 145) _ = _
  simp only [Act.put,List.setIfInBounds_toArray,List.set_cons_zero,List.set_cons_succ,i64_w,i32_w]
  rfl) : P:=h
theorem Z64 {P : Prop} (h : P:=by
  rintro w' ⟨s0,s1,s2,s3,s4,s5,s6,s7,s8,s9,s10,s11⟩
  go_simp
  with_reducible rfl) : P:=h
theorem Z65 {P : Prop} (h : P:=by
  show Act.put _ (some 70) _ = _
  simp only [Act.put,List.setIfInBounds_toArray,List.set_cons_zero,List.set_cons_succ,i64_w,i32_w]
  rfl) : P:=h
theorem Z66 {P : Prop} (h : P:=by
  show Act.put _ (some 68) _ = _
  simp only [Act.put,List.setIfInBounds_toArray,List.set_cons_zero,List.set_cons_succ,i64_w,i32_w]
  rfl) : P:=h
theorem Z67 {P : Prop} (h : P:=by
  show Act.put _ (some 52) _ = _
  simp only [Act.put,List.setIfInBounds_toArray,List.set_cons_zero,List.set_cons_succ,i64_w,i32_w]
  rfl) : P:=h
theorem Z68 {P : Prop} (h : P:=by
  show Act.put _ (some 27) _ = _
  simp only [Act.put,List.setIfInBounds_toArray,List.set_cons_zero,List.set_cons_succ,i64_w,i32_w]
  rfl) : P:=h
theorem Z69 {P Q : Prop} (q : Q) (h : Q → P:=by
  intro q_
  intro ad_ e_ hp_;(first | subst e_ | cases e_);exact Kd.foot_ne q_ hp_ (by decide)) : P:=h q
theorem pU {P : Program} {ops : Array Oper} {Q : Exit → Act → World → Prop} {md : Region.Mode} {S : World → Prop} {ds : List Nat} (i n : Nat) {oi : Oper} {v : Value} {fuel : Nat} {l : Array Bool} {a a' : Act} {w : World} (l' : Array Bool) (h : wpAnyLast P md ops Q S ds fuel l' a' w) (hi : ops[i]? = some oi:=by exact rfl) (hN : oi.dst = some n:=by exact rfl) (hc : anyB md ops l l' i = true:=by exact any_of HT_.out (by kernel_rfl)) (hQ : ∀ c a w,Q (.panic c) (a.put oi.dst v) w → Q (.panic c) a w:=by exact fun _ _ _ h => h) (hw : Region.wanted oi (yielded ops a.tmps) = true:=by rfl) (hv : ∀ w,(execOp a.eval oi).run P w = .ok (.value v) w:=by
  intro w'
  go_simp
  with_reducible rfl) (ha : a.put (some n) v = a':=by
  simp only [Act.put,List.setIfInBounds_toArray,List.set_cons_zero,List.set_cons_succ,i64_w,i32_w]
  rfl) : wpAnyLast P md ops Q S ds (fuel + 1) l a w:=pure_ (N:=some n) l' hi hN hc hQ (Or.inl ⟨hw,hv⟩) ha h
theorem pN {P : Program} {ops : Array Oper} {Q : Exit → Act → World → Prop} {md : Region.Mode} {S : World → Prop} {ds : List Nat} (i n : Nat) {oi : Oper} {fuel : Nat} {l : Array Bool} {a a' : Act} {w : World} (l' : Array Bool) (h : wpAnyLast P md ops Q S ds fuel l' a' w) {v : Value} (hv : v = undef:=by exact rfl) (hi : ops[i]? = some oi:=by exact rfl) (hN : oi.dst = some n:=by exact rfl) (hc : anyB md ops l l' i = true:=by exact any_of HT_.out (by kernel_rfl)) (hQ : ∀ c a w,Q (.panic c) (a.put oi.dst v) w → Q (.panic c) a w:=by exact fun _ _ _ h => h) (hw : Region.wanted oi (yielded ops a.tmps) = false:=by rfl) (ha : a.put (some n) v = a':=by
  simp only [Act.put,List.setIfInBounds_toArray,List.set_cons_zero,List.set_cons_succ,i64_w,i32_w]
  rfl) : wpAnyLast P md ops Q S ds (fuel + 1) l a w:=pure_ (N:=some n) l' hi hN hc hQ (Or.inr ⟨hw,hv⟩) ha h
theorem tU {P : Program} {ops : Array Oper} {Q : Exit → Act → World → Prop} {md : Region.Mode} {S : World → Prop} {ds : List Nat} (i n : Nat) {oi : Oper} {v : Value} {fuel : Nat} {l : Array Bool} {a a' : Act} {w : World} (l' : Array Bool) (h : wpAnyLast P md ops Q S ds fuel l' a' w) (hi : ops[i]? = some oi:=by exact rfl) (hN : oi.dst = some n:=by exact rfl) (y : ∀ w,S w → (execOp a.eval oi).run P w = .ok (.value v) w) (hc : takeB md ops ds l l' i = true:=by exact take_ofW HT_.out HW_.out (by kernel_rfl)) (hQ : ∀ c a w,Q (.panic c) (a.put oi.dst v) w → Q (.panic c) a w:=by exact fun _ _ _ h => h) (hw : Region.wanted oi (yielded ops a.tmps) = true:=by rfl) (hS : S w:=by exact hHeld) (ha : a.put (some n) v = a':=by
  simp only [Act.put,List.setIfInBounds_toArray,List.set_cons_zero,List.set_cons_succ,i64_w,i32_w]
  rfl) : wpAnyLast P md ops Q S ds (fuel + 1) l a w:=take_ (N:=some n) l' hi hN hc hQ (Or.inl ⟨hw,y⟩) hS ha h
theorem oU {P : Program} {ops : Array Oper} {Q : Exit → Act → World → Prop} {md : Region.Mode} {S : World → Prop} {ds : List Nat} (i : Nat) (N : Option Tmp) {oi : Oper} {fuel : Nat} {l : Array Bool} {a : Act} {w : World} (l' : Array Bool) (h : ∀ K : Act → World → Prop,Shut (∀ a' w',S w' → (S w' → wpAnyLast P md ops Q S ds fuel l' a' w') → K a' w') → if Region.wanted oi (yielded ops a.tmps) = true then Oper.wp P oi a w K Q else K (a.put N undef) w) (hi : ops[i]? = some oi:=by exact rfl) (hN : oi.dst = N:=by exact rfl) (hc : readyB md ops l l' i = true:=by exact one_of HT_.out (by kernel_rfl)) (hd : i ∉ ds:=by decide) : wpAnyLast P md ops Q S ds (fuel + 1) l a w:=one_ l' hi hN hc hd h
abbrev bz:=@below_size
abbrev bst:=@below_step
abbrev bb:=@blk_below
abbrev Nm:=@Kd.N_mono
abbrev Vm:=@Kd.V_mono
abbrev Rm:=@Kd.R_mono
abbrev kt:=@KeepBut.trans
abbrev kb:=@KeepBut.of_below
abbrev nl:=@Nat.ne_of_lt
abbrev dt:=@decide_eq_true
abbrev df:=@decide_eq_false
abbrev ba:=@blk_alloc
abbrev bc:=@blk_cell
abbrev ob {α : Type} (k : Nat) (a : Option Addr) (x : List α) (c : Nat) : Prop:=some k ≠ (Value.slice a x.length c).ownBlock
abbrev M0 : Array Bool:=#[T,T,T,T,T,T,T,T,T,T,T,T,T,T,T,F,F]
abbrev M1 : Array Bool:=#[F,F,F,F,F,F,F,F,F,F,F,F,F,F,F,F,F,F,F,F,F,F,F,F,F,F,F,F,F,F]
abbrev M2 : Array Bool:=#[T,F,F,F,F,F,F,F,F,F,F,F,F,F,F,F,F,F,F,F,F,F,F,F,F,F,F,F,F,F]
abbrev M3 : Array Bool:=#[T,T,F,F,F,F,F,F,F,F,F,F,F,F,F,F,F,F,F,F,F,F,F,F,F,F,F,F,F,F]
abbrev M4 : Array Bool:=#[T,T,T,F,F,F,F,F,F,F,F,F,F,F,F,F,F,F,F,F,F,F,F,F,F,F,F,F,F,F]
abbrev M5 : Array Bool:=#[T,T,T,T,F,F,F,F,F,F,F,F,F,F,F,F,F,F,F,F,F,F,F,F,F,F,F,F,F,F]
abbrev M6 : Array Bool:=#[T,T,T,T,T,F,F,F,F,F,F,F,F,F,F,F,F,F,F,F,F,F,F,F,F,F,F,F,F,F]
abbrev M7 : Array Bool:=#[T,T,T,T,T,T,F,F,F,F,F,F,F,F,F,F,F,F,F,F,F,F,F,F,F,F,F,F,F,F]
abbrev M8 : Array Bool:=#[T,T,T,T,T,T,T,F,F,F,F,F,F,F,F,F,F,F,F,F,F,F,F,F,F,F,F,F,F,F]
abbrev M9 : Array Bool:=#[T,T,T,T,T,T,T,T,F,F,F,F,F,F,F,F,F,F,F,F,F,F,F,F,F,F,F,F,F,F]
abbrev M10 : Array Bool:=#[T,T,T,T,T,T,T,T,T,F,F,F,F,F,F,F,F,F,F,F,F,F,F,F,F,F,F,F,F,F]
abbrev M11 : Array Bool:=#[T,T,T,T,T,T,T,T,T,F,T,F,F,F,F,F,F,F,F,F,F,F,F,F,F,F,F,F,F,F]
abbrev M12 : Array Bool:=#[T,T,T,T,T,T,T,T,T,F,T,F,T,F,F,F,F,F,F,F,F,F,F,F,F,F,F,F,F,F]
abbrev M13 : Array Bool:=#[T,T,T,T,T,T,T,T,T,F,T,F,T,T,F,F,F,F,F,F,F,F,F,F,F,F,F,F,F,F]
abbrev M14 : Array Bool:=#[T,T,T,T,T,T,T,T,T,T,T,F,T,T,F,F,F,F,F,F,F,F,F,F,F,F,F,F,F,F]
abbrev M15 : Array Bool:=#[T,T,T,T,T,T,T,T,T,T,T,T,T,T,F,F,F,F,F,F,F,F,F,F,F,F,F,F,F,F]
abbrev M16 : Array Bool:=#[T,T,T,T,T,T,T,T,T,T,T,T,T,T,T,F,F,F,F,F,F,F,F,F,F,F,F,F,F,F]
abbrev M17 : Array Bool:=#[T,T,T,T,T,T,T,T,T,T,T,T,T,T,T,T,F,F,F,F,F,F,F,F,F,F,F,F,F,F]
abbrev M18 : Array Bool:=#[T,T,T,T,T,T,T,T,T,T,T,T,T,T,T,T,T,F,F,F,F,F,F,F,F,F,F,F,F,F]
abbrev M19 : Array Bool:=#[T,T,T,T,T,T,T,T,T,T,T,T,T,T,T,T,T,T,F,F,F,F,F,F,F,F,F,F,F,F]
abbrev M20 : Array Bool:=#[T,T,T,T,T,T,T,T,T,T,T,T,T,T,T,T,T,T,T,F,F,F,F,F,F,F,F,F,F,F]
abbrev M21 : Array Bool:=#[T,T,T,T,T,T,T,T,T,T,T,T,T,T,T,T,T,T,T,T,F,F,F,F,F,F,F,F,F,F]
abbrev M22 : Array Bool:=#[T,T,T,T,T,T,T,T,T,T,T,T,T,T,T,T,T,T,T,T,T,F,F,F,F,F,F,F,F,F]
abbrev M23 : Array Bool:=#[T,T,T,T,T,T,T,T,T,T,T,T,T,T,T,T,T,T,T,T,T,T,F,F,F,F,F,F,F,F]
abbrev M24 : Array Bool:=#[T,T,T,T,T,T,T,T,T,T,T,T,T,T,T,T,T,T,T,T,T,T,T,F,F,F,F,F,F,F]
abbrev M25 : Array Bool:=#[T,T,T,T,T,T,T,T,T,T,T,T,T,T,T,T,T,T,T,T,T,T,T,T,F,F,F,F,F,F]
abbrev M26 : Array Bool:=#[T,T,T,T,T,T,T,T,T,T,T,T,T,T,T,T,T,T,T,T,T,T,T,T,T,F,F,F,F,F]
abbrev M27 : Array Bool:=#[T,T,T,T,T,T,T,T,T,T,T,T,T,T,T,T,T,T,T,T,T,T,T,T,T,T,F,F,F,F]
abbrev M28 : Array Bool:=#[T,T,T,T,T,T,T,T,T,T,T,T,T,T,T,T,T,T,T,T,T,T,T,T,T,T,T,F,F,F]
abbrev M29 : Array Bool:=#[T,T,T,T,T,T,T,T,T,T,T,T,T,T,T,T,T,T,T,T,T,T,T,T,T,T,T,T,F,F]
abbrev M30 : Array Bool:=#[T,T,T,T,T,T,T,T,T,T,T,T,T,T,T,T,T,T,T,T,T,T,T,T,T,T,T,T,T,F]
abbrev M31 : Array Bool:=#[T,T,T,T,T,T,T,T,T,T,T,T,T,T,T,T,T,T,T,T,T,T,T,T,T,T,T,T,T,T]
abbrev M32 : Array Bool:=#[T,T,T,T,T,T,T,T,T,T,T,T,T,T,T,T,T,T,T,T,T,T,F,T,F,F,F,F,F,F]
abbrev M33 : Array Bool:=#[T,T,T,T,T,T,T,T,T,T,F,F,F,F,F,F,F,F,F,F,F,F,F,F,F,F,F,F,F,F]
abbrev M34 : Array Bool:=#[T,T,T,T,T,T,T,T,T,T,T,F,F,F,F,F,F,F,F,F,F,F,F,F,F,F,F,F,F,F]
abbrev M35 : Array Bool:=#[T,T,T,T,T,T,T,T,T,T,T,T,F,F,F,F,F,F,F,F,F,F,F,F,F,F,F,F,F,F]
abbrev M36 : Array Bool:=#[T,T,T,T,T,T,T,T,T,T,T,T,T,F,F,F,F,F,F,F,F,F,F,F,F,F,F,F,F,F]
abbrev M37 : Array Bool:=#[F,F,F,F,F,F,F,F,F,F,F,F,F,F,F,F,F,F,F,F,F,F,F,F,F,F,F,F,F,F,F,F,F]
abbrev M38 : Array Bool:=#[T,F,F,F,F,F,F,F,F,F,F,F,F,F,F,F,F,F,F,F,F,F,F,F,F,F,F,F,F,F,F,F,F]
abbrev M39 : Array Bool:=#[T,T,F,F,F,F,F,F,F,F,F,F,F,F,F,F,F,F,F,F,F,F,F,F,F,F,F,F,F,F,F,F,F]
abbrev M40 : Array Bool:=#[T,T,T,F,F,F,F,F,F,F,F,F,F,F,F,F,F,F,F,F,F,F,F,F,F,F,F,F,F,F,F,F,F]
abbrev M41 : Array Bool:=#[T,T,T,F,T,F,F,F,F,F,F,F,F,F,F,F,F,F,F,F,F,F,F,F,F,F,F,F,F,F,F,F,F]
abbrev M42 : Array Bool:=#[T,T,T,T,T,F,F,F,F,F,F,F,F,F,F,F,F,F,F,F,F,F,F,F,F,F,F,F,F,F,F,F,F]
abbrev M43 : Array Bool:=#[T,T,T,T,T,T,F,F,F,F,F,F,F,F,F,F,F,F,F,F,F,F,F,F,F,F,F,F,F,F,F,F,F]
abbrev M44 : Array Bool:=#[T,T,T,T,T,T,T,F,F,F,F,F,F,F,F,F,F,F,F,F,F,F,F,F,F,F,F,F,F,F,F,F,F]
abbrev M45 : Array Bool:=#[T,T,T,T,T,T,T,T,F,F,F,F,F,F,F,F,F,F,F,F,F,F,F,F,F,F,F,F,F,F,F,F,F]
abbrev M46 : Array Bool:=#[T,T,T,T,T,T,T,T,T,F,F,F,F,F,F,F,F,F,F,F,F,F,F,F,F,F,F,F,F,F,F,F,F]
abbrev M47 : Array Bool:=#[T,T,T,T,T,T,T,T,T,T,F,F,F,F,F,F,F,F,F,F,F,F,F,F,F,F,F,F,F,F,F,F,F]
abbrev M48 : Array Bool:=#[T,T,T,T,T,T,T,T,T,T,T,F,F,F,F,F,F,F,F,F,F,F,F,F,F,F,F,F,F,F,F,F,F]
abbrev M49 : Array Bool:=#[T,T,T,T,T,T,T,T,T,T,T,T,F,F,F,F,F,F,F,F,F,F,F,F,F,F,F,F,F,F,F,F,F]
abbrev M50 : Array Bool:=#[T,T,T,T,T,T,T,T,T,T,T,T,T,F,F,F,F,F,F,F,F,F,F,F,F,F,F,F,F,F,F,F,F]
abbrev M51 : Array Bool:=#[T,T,T,T,T,T,T,T,T,T,T,T,T,T,F,F,F,F,F,F,F,F,F,F,F,F,F,F,F,F,F,F,F]
abbrev M52 : Array Bool:=#[T,T,T,T,T,T,T,T,T,T,T,T,T,T,T,F,F,F,F,F,F,F,F,F,F,F,F,F,F,F,F,F,F]
abbrev M53 : Array Bool:=#[T,T,T,T,T,T,T,T,T,T,T,T,T,T,T,T,F,F,F,F,F,F,F,F,F,F,F,F,F,F,F,F,F]
abbrev M54 : Array Bool:=#[T,T,T,T,T,T,T,T,T,T,T,T,T,T,T,T,T,F,F,F,F,F,F,F,F,F,F,F,F,F,F,F,F]
abbrev M55 : Array Bool:=#[T,T,T,T,T,T,T,T,T,T,T,T,T,T,T,T,T,T,F,F,F,F,F,F,F,F,F,F,F,F,F,F,F]
abbrev M56 : Array Bool:=#[T,T,T,T,T,T,T,T,T,T,T,T,T,T,T,T,T,T,T,F,F,F,F,F,F,F,F,F,F,F,F,F,F]
abbrev M57 : Array Bool:=#[T,T,T,T,T,T,T,T,T,T,T,T,T,T,T,T,T,T,T,T,F,F,F,F,F,F,F,F,F,F,F,F,F]
abbrev M58 : Array Bool:=#[T,T,T,T,T,T,T,T,T,T,T,T,T,T,T,T,T,T,T,T,T,F,F,F,F,F,F,F,F,F,F,F,F]
abbrev M59 : Array Bool:=#[T,T,T,T,T,T,T,T,T,T,T,T,T,T,T,T,T,T,T,T,T,T,F,F,F,F,F,F,F,F,F,F,F]
abbrev M60 : Array Bool:=#[T,T,T,T,T,T,T,T,T,T,T,T,T,T,T,T,T,T,T,T,T,T,T,F,F,F,F,F,F,F,F,F,F]
abbrev M61 : Array Bool:=#[T,T,T,T,T,T,T,T,T,T,T,T,T,T,T,T,T,T,T,T,T,T,T,T,F,F,F,F,F,F,F,F,F]
abbrev M62 : Array Bool:=#[T,T,T,T,T,T,T,T,T,T,T,T,T,T,T,T,T,T,T,T,T,T,T,T,T,F,F,F,F,F,F,F,F]
abbrev M63 : Array Bool:=#[T,T,T,T,T,T,T,T,T,T,T,T,T,T,T,T,T,T,T,T,T,T,T,T,T,T,F,F,F,F,F,F,F]
abbrev M64 : Array Bool:=#[T,T,T,T,T,T,T,T,T,T,T,T,T,T,T,T,T,T,T,T,T,T,T,T,T,T,T,F,F,F,F,F,F]
abbrev M65 : Array Bool:=#[T,T,T,T,T,T,T,T,T,T,T,T,T,T,T,T,T,T,T,T,T,T,T,T,T,T,T,T,F,F,F,F,F]
abbrev M66 : Array Bool:=#[T,T,T,T,T,T,T,T,T,T,T,T,T,T,T,T,T,T,T,T,T,T,T,T,T,T,T,T,T,F,F,F,F]
abbrev M67 : Array Bool:=#[T,T,T,T,T,T,T,T,T,T,T,T,T,T,T,T,T,T,T,T,T,T,T,T,T,T,T,T,T,T,F,F,F]
abbrev M68 : Array Bool:=#[T,T,T,T,T,T,T,T,T,T,T,T,T,T,T,T,T,T,T,T,T,T,T,T,T,T,T,T,T,T,T,F,F]
abbrev M69 : Array Bool:=#[T,T,T,T,T,T,T,T,T,T,T,T,T,T,T,T,T,T,T,T,T,T,T,T,T,T,T,T,T,T,T,T,F]
abbrev M70 : Array Bool:=#[T,T,T,T,T,T,T,T,T,T,T,T,T,T,T,T,T,T,T,T,T,T,T,T,T,T,T,T,T,T,T,T,T]
abbrev M71 : Array Bool:=#[T,T,T,T,T,T,T,T,T,T,T,T,T,T,F,T,F,F,F,F,F,F,F,F,F,F,F,F,F,F,F,F,F]
abbrev M72 : Array Bool:=#[T,T,T,T,T,T,T,T,T,T,T,T,T,T,F,T,T,F,F,F,F,F,F,F,F,F,F,F,F,F,F,F,F]
abbrev M73 : Array Bool:=#[T,T,T,T,T,T,T,T,T,T,T,T,T,T,F,T,T,T,F,F,F,F,F,F,F,F,F,F,F,F,F,F,F]
abbrev M74 : Array Bool:=#[T,T,T,T,T,T,T,T,T,T,T,T,T,T,T,T,T,T,T,T,T,T,T,T,T,T,T,F,F,T,F,F,F]
abbrev M75 : Array Bool:=#[T,T,T,T,T,T,T,T,T,T,T,T,T,T,T,T,T,T,T,T,T,T,T,T,T,T,T,T,F,T,F,F,F]
abbrev M76 : Array Bool:=#[F,F,F,F,F,F,F,F,F,F,F,F,F,F,F,F,F,F,F,F,F,F,F,F,F,F,F,F,F,F,F,F,F,F,F,F]
abbrev M77 : Array Bool:=#[T,F,F,F,F,F,F,F,F,F,F,F,F,F,F,F,F,F,F,F,F,F,F,F,F,F,F,F,F,F,F,F,F,F,F,F]
abbrev M78 : Array Bool:=#[T,T,F,F,F,F,F,F,F,F,F,F,F,F,F,F,F,F,F,F,F,F,F,F,F,F,F,F,F,F,F,F,F,F,F,F]
abbrev M79 : Array Bool:=#[T,T,T,F,F,F,F,F,F,F,F,F,F,F,F,F,F,F,F,F,F,F,F,F,F,F,F,F,F,F,F,F,F,F,F,F]
abbrev M80 : Array Bool:=#[T,T,T,T,F,F,F,F,F,F,F,F,F,F,F,F,F,F,F,F,F,F,F,F,F,F,F,F,F,F,F,F,F,F,F,F]
abbrev M81 : Array Bool:=#[T,T,T,T,T,F,F,F,F,F,F,F,F,F,F,F,F,F,F,F,F,F,F,F,F,F,F,F,F,F,F,F,F,F,F,F]
abbrev M82 : Array Bool:=#[T,T,T,T,T,T,F,F,F,F,F,F,F,F,F,F,F,F,F,F,F,F,F,F,F,F,F,F,F,F,F,F,F,F,F,F]
abbrev M83 : Array Bool:=#[T,T,T,T,T,T,T,F,F,F,F,F,F,F,F,F,F,F,F,F,F,F,F,F,F,F,F,F,F,F,F,F,F,F,F,F]
abbrev M84 : Array Bool:=#[T,T,T,T,T,T,T,T,F,F,F,F,F,F,F,F,F,F,F,F,F,F,F,F,F,F,F,F,F,F,F,F,F,F,F,F]
abbrev M85 : Array Bool:=#[T,T,T,T,T,T,T,T,T,F,F,F,F,F,F,F,F,F,F,F,F,F,F,F,F,F,F,F,F,F,F,F,F,F,F,F]
abbrev M86 : Array Bool:=#[T,T,T,T,T,T,T,T,T,T,F,F,F,F,F,F,F,F,F,F,F,F,F,F,F,F,F,F,F,F,F,F,F,F,F,F]
abbrev M87 : Array Bool:=#[T,T,T,T,T,T,T,T,T,T,T,F,F,F,F,F,F,F,F,F,F,F,F,F,F,F,F,F,F,F,F,F,F,F,F,F]
abbrev M88 : Array Bool:=#[T,T,T,T,T,T,T,T,T,T,T,T,F,F,F,F,F,F,F,F,F,F,F,F,F,F,F,F,F,F,F,F,F,F,F,F]
abbrev M89 : Array Bool:=#[T,T,T,T,T,T,T,T,T,T,T,T,F,T,F,F,F,F,F,F,F,F,F,F,F,F,F,F,F,F,F,F,F,F,F,F]
abbrev M90 : Array Bool:=#[T,T,T,T,T,T,T,T,T,T,T,T,F,T,T,F,F,F,F,F,F,F,F,F,F,F,F,F,F,F,F,F,F,F,F,F]
abbrev M91 : Array Bool:=#[T,T,T,T,T,T,T,T,T,T,T,T,T,T,T,F,F,F,F,F,F,F,F,F,F,F,F,F,F,F,F,F,F,F,F,F]
abbrev M92 : Array Bool:=#[T,T,T,T,T,T,T,T,T,T,T,T,T,T,T,T,F,F,F,F,F,F,F,F,F,F,F,F,F,F,F,F,F,F,F,F]
abbrev M93 : Array Bool:=#[T,T,T,T,T,T,T,T,T,T,T,T,T,T,T,T,T,F,F,F,F,F,F,F,F,F,F,F,F,F,F,F,F,F,F,F]
abbrev M94 : Array Bool:=#[T,T,T,T,T,T,T,T,T,T,T,T,T,T,T,T,T,T,F,F,F,F,F,F,F,F,F,F,F,F,F,F,F,F,F,F]
abbrev M95 : Array Bool:=#[T,T,T,T,T,T,T,T,T,T,T,T,T,T,T,T,T,T,T,F,F,F,F,F,F,F,F,F,F,F,F,F,F,F,F,F]
abbrev M96 : Array Bool:=#[T,T,T,T,T,T,T,T,T,T,T,T,T,T,T,T,T,T,T,T,F,F,F,F,F,F,F,F,F,F,F,F,F,F,F,F]
abbrev M97 : Array Bool:=#[T,T,T,T,T,T,T,T,T,T,T,T,T,T,T,T,T,T,T,T,T,F,F,F,F,F,F,F,F,F,F,F,F,F,F,F]
abbrev M98 : Array Bool:=#[T,T,T,T,T,T,T,T,T,T,T,T,T,T,T,T,T,T,T,T,T,T,F,F,F,F,F,F,F,F,F,F,F,F,F,F]
abbrev M99 : Array Bool:=#[T,T,T,T,T,T,T,T,T,T,T,T,T,T,T,T,T,T,T,T,T,T,T,F,F,F,F,F,F,F,F,F,F,F,F,F]
abbrev M100 : Array Bool:=#[T,T,T,T,T,T,T,T,T,T,T,T,T,T,T,T,T,T,T,T,T,T,T,T,F,F,F,F,F,F,F,F,F,F,F,F]
abbrev M101 : Array Bool:=#[T,T,T,T,T,T,T,T,T,T,T,T,T,T,T,T,T,T,T,T,T,T,T,T,T,F,F,F,F,F,F,F,F,F,F,F]
abbrev M102 : Array Bool:=#[T,T,T,T,T,T,T,T,T,T,T,T,T,T,T,T,T,T,T,T,T,T,T,T,T,T,F,F,F,F,F,F,F,F,F,F]
abbrev M103 : Array Bool:=#[T,T,T,T,T,T,T,T,T,T,T,T,T,T,T,T,T,T,T,T,T,T,T,T,T,T,F,T,F,F,F,F,F,F,F,F]
abbrev M104 : Array Bool:=#[T,T,T,T,T,T,T,T,T,T,T,T,T,T,T,T,T,T,T,T,T,T,T,T,T,T,F,T,T,F,F,F,F,F,F,F]
abbrev M105 : Array Bool:=#[T,T,T,T,T,T,T,T,T,T,T,T,T,T,T,T,T,T,T,T,T,T,T,T,T,T,F,T,T,T,F,F,F,F,F,F]
abbrev M106 : Array Bool:=#[T,T,T,T,T,T,T,T,T,T,T,T,T,T,T,T,T,T,T,T,T,T,T,T,T,T,F,T,T,T,T,F,F,F,F,F]
abbrev M107 : Array Bool:=#[T,T,T,T,T,T,T,T,T,T,T,T,T,T,T,T,T,T,T,T,T,T,T,T,T,T,F,T,T,T,T,T,F,F,F,F]
abbrev M108 : Array Bool:=#[T,T,T,T,T,T,T,T,T,T,T,T,T,T,T,T,T,T,T,T,T,T,T,T,T,T,T,T,T,T,T,T,F,F,F,F]
abbrev M109 : Array Bool:=#[T,T,T,T,T,T,T,T,T,T,T,T,T,T,T,T,T,T,T,T,T,T,T,T,T,T,T,T,T,T,T,T,T,F,F,F]
abbrev M110 : Array Bool:=#[T,T,T,T,T,T,T,T,T,T,T,T,T,T,T,T,T,T,T,T,T,T,T,T,T,T,T,T,T,T,T,T,T,T,F,F]
abbrev M111 : Array Bool:=#[T,T,T,T,T,T,T,T,T,T,T,T,T,T,T,T,T,T,T,T,T,T,T,T,T,T,T,T,T,T,T,T,T,T,T,F]
abbrev M112 : Array Bool:=#[T,T,T,T,T,T,T,T,T,T,T,T,T,T,T,T,T,T,T,T,T,T,T,T,T,T,T,T,T,T,T,T,T,T,T,T]
abbrev M113 : Array Bool:=#[T,T,T,T,T,T,T,T,T,T,T,T,T,T,T,T,T,T,T,T,T,T,T,T,T,T,T,F,F,F,F,F,F,F,F,F]
abbrev M114 : Array Bool:=#[T,T,T,T,T,T,T,T,T,T,T,T,T,T,T,T,T,T,T,T,T,T,T,T,T,T,T,T,F,F,F,F,F,F,F,F]
abbrev M115 : Array Bool:=#[T,T,T,T,T,T,T,T,T,T,T,T,T,T,T,T,T,T,T,T,T,T,T,T,T,T,T,T,T,F,F,F,F,F,F,F]
abbrev M116 : Array Bool:=#[T,T,T,T,T,T,T,T,T,T,T,T,T,T,T,T,T,T,T,T,T,T,T,T,T,T,T,T,T,T,F,F,F,F,F,F]
abbrev M117 : Array Bool:=#[T,T,T,T,T,T,T,T,T,T,T,T,T,T,T,T,T,T,T,T,T,T,T,T,T,T,T,T,T,T,T,F,F,F,F,F]
abbrev M118 : Array Bool:=#[F,F,F,F,F,F,F,F,F,F,F,F,F,F,F,F,F,F,F,F,F,F,F,F,F,F,F,F,F]
abbrev M119 : Array Bool:=#[T,F,F,F,F,F,F,F,F,F,F,F,F,F,F,F,F,F,F,F,F,F,F,F,F,F,F,F,F]
abbrev M120 : Array Bool:=#[T,T,F,F,F,F,F,F,F,F,F,F,F,F,F,F,F,F,F,F,F,F,F,F,F,F,F,F,F]
abbrev M121 : Array Bool:=#[T,T,T,F,F,F,F,F,F,F,F,F,F,F,F,F,F,F,F,F,F,F,F,F,F,F,F,F,F]
abbrev M122 : Array Bool:=#[T,T,T,T,F,F,F,F,F,F,F,F,F,F,F,F,F,F,F,F,F,F,F,F,F,F,F,F,F]
abbrev M123 : Array Bool:=#[T,T,T,T,T,F,F,F,F,F,F,F,F,F,F,F,F,F,F,F,F,F,F,F,F,F,F,F,F]
abbrev M124 : Array Bool:=#[T,T,T,T,T,F,F,T,F,F,F,F,F,F,F,F,F,F,F,F,F,F,F,F,F,F,F,F,F]
abbrev M125 : Array Bool:=#[T,T,T,T,T,T,F,T,F,F,F,F,F,F,F,F,F,F,F,F,F,F,F,F,F,F,F,F,F]
abbrev M126 : Array Bool:=#[T,T,T,T,T,T,T,T,F,F,F,F,F,F,F,F,F,F,F,F,F,F,F,F,F,F,F,F,F]
abbrev M127 : Array Bool:=#[T,T,T,T,T,T,T,T,T,F,F,F,F,F,F,F,F,F,F,F,F,F,F,F,F,F,F,F,F]
abbrev M128 : Array Bool:=#[T,T,T,T,T,T,T,T,T,T,F,F,F,F,F,F,F,F,F,F,F,F,F,F,F,F,F,F,F]
abbrev M129 : Array Bool:=#[T,T,T,T,T,T,T,T,T,T,T,F,F,F,F,F,F,F,F,F,F,F,F,F,F,F,F,F,F]
abbrev M130 : Array Bool:=#[T,T,T,T,T,T,T,T,T,T,T,T,F,F,F,F,F,F,F,F,F,F,F,F,F,F,F,F,F]
abbrev M131 : Array Bool:=#[T,T,T,T,T,T,T,T,T,T,T,T,T,F,F,F,F,F,F,F,F,F,F,F,F,F,F,F,F]
abbrev M132 : Array Bool:=#[T,T,T,T,T,T,T,T,T,T,T,T,T,T,F,F,F,F,F,F,F,F,F,F,F,F,F,F,F]
abbrev M133 : Array Bool:=#[T,T,T,T,T,T,T,T,T,T,T,T,T,T,T,F,F,F,F,F,F,F,F,F,F,F,F,F,F]
abbrev M134 : Array Bool:=#[T,T,T,T,T,T,T,T,T,T,T,T,T,T,T,T,F,F,F,F,F,F,F,F,F,F,F,F,F]
abbrev M135 : Array Bool:=#[T,T,T,T,T,T,T,T,T,T,T,T,T,T,T,T,T,F,F,F,F,F,F,F,F,F,F,F,F]
abbrev M136 : Array Bool:=#[T,T,T,T,T,T,T,T,T,T,T,T,T,T,T,T,T,T,F,F,F,F,F,F,F,F,F,F,F]
abbrev M137 : Array Bool:=#[T,T,T,T,T,T,T,T,T,T,T,T,T,T,T,T,T,T,T,F,F,F,F,F,F,F,F,F,F]
abbrev M138 : Array Bool:=#[T,T,T,T,T,T,T,T,T,T,T,T,T,T,T,T,T,T,T,T,T,T,T,T,F,F,F,F,F]
abbrev M139 : Array Bool:=#[T,T,T,T,T,T,T,T,T,T,T,T,T,T,T,T,T,T,T,T,T,T,T,T,T,F,F,F,F]
abbrev M140 : Array Bool:=#[T,T,T,T,T,T,T,T,T,T,T,T,T,T,T,T,T,T,T,T,T,T,T,T,T,T,F,F,F]
abbrev M141 : Array Bool:=#[T,T,T,T,T,T,T,T,T,T,T,T,T,T,T,T,T,T,T,T,T,T,T,T,T,T,T,F,F]
abbrev M142 : Array Bool:=#[T,T,T,T,T,T,T,T,T,T,T,T,T,T,T,T,T,T,T,T,T,T,T,T,T,T,T,T,F]
abbrev M143 : Array Bool:=#[T,T,T,T,T,T,T,T,T,T,T,T,T,T,T,T,T,T,T,T,T,T,T,T,T,T,T,T,T]
abbrev M144 : Array Bool:=#[T,T,T,T,T,T,T,T,T,T,T,T,T,T,T,T,T,T,T,T,F,F,F,F,F,F,F,F,F]
abbrev M145 : Array Bool:=#[T,T,T,T,T,T,T,T,T,T,T,T,T,T,T,T,T,T,T,T,T,F,F,F,F,F,F,F,F]
abbrev M146 : Array Bool:=#[T,T,T,T,T,T,T,T,T,T,T,T,T,T,T,T,T,T,T,T,T,T,F,F,F,F,F,F,F]
abbrev M147 : Array Bool:=#[T,T,T,T,T,T,T,T,T,T,T,T,T,T,T,T,T,T,T,T,T,T,T,F,F,F,F,F,F]
abbrev M148 : Array Bool:=#[F,F,F,F,F,F,F,F,F,F,F,F,F,F,F,F,F,F,F,F,F]
abbrev M149 : Array Bool:=#[T,F,F,F,F,F,F,F,F,F,F,F,F,F,F,F,F,F,F,F,F]
abbrev M150 : Array Bool:=#[T,F,T,F,F,F,F,F,F,F,F,F,F,F,F,F,F,F,F,F,F]
abbrev M151 : Array Bool:=#[T,F,T,T,F,F,F,F,F,F,F,F,F,F,F,F,F,F,F,F,F]
abbrev M152 : Array Bool:=#[T,F,T,T,T,F,F,F,F,F,F,F,F,F,F,F,F,F,F,F,F]
abbrev M153 : Array Bool:=#[T,F,T,T,T,T,F,F,F,F,F,F,F,F,F,F,F,F,F,F,F]
abbrev M154 : Array Bool:=#[T,F,T,T,T,T,T,F,F,F,F,F,F,F,F,F,F,F,F,F,F]
abbrev M155 : Array Bool:=#[T,T,T,T,T,T,T,F,F,F,F,F,F,F,F,F,F,F,F,F,F]
abbrev M156 : Array Bool:=#[T,T,T,T,T,T,T,T,F,F,F,F,F,F,F,F,F,F,F,F,F]
abbrev M157 : Array Bool:=#[T,T,T,T,T,T,T,T,T,F,F,F,F,F,F,F,F,F,F,F,F]
abbrev M158 : Array Bool:=#[T,T,T,T,T,T,T,T,T,T,F,F,F,F,F,F,F,F,F,F,F]
abbrev M159 : Array Bool:=#[T,T,T,T,T,T,T,T,T,T,T,T,T,T,F,F,F,F,F,F,F]
abbrev M160 : Array Bool:=#[T,T,T,T,T,T,T,T,T,T,T,T,T,T,T,F,F,F,F,F,F]
abbrev M161 : Array Bool:=#[T,T,T,T,T,T,T,T,T,T,T,T,T,T,T,T,F,F,F,F,F]
abbrev M162 : Array Bool:=#[T,T,T,T,T,T,T,T,T,T,T,T,T,T,T,T,T,F,F,F,F]
abbrev M163 : Array Bool:=#[T,T,T,T,T,T,T,T,T,T,T,T,T,T,T,T,T,T,F,F,F]
abbrev M164 : Array Bool:=#[T,T,T,T,T,T,T,T,T,T,T,T,T,T,T,T,T,T,T,F,F]
abbrev M165 : Array Bool:=#[T,T,T,T,T,T,T,T,T,T,T,T,T,T,T,T,T,T,T,T,F]
abbrev M166 : Array Bool:=#[T,T,T,T,T,T,T,T,T,T,T,T,T,T,T,T,T,T,T,T,T]
theorem kB_ {w0 w W : World} {g g' : Nat} {o : Obj} (hk : KeepBut w W g none) (n : g' ≠ g) (q : w0.heap[g']? = some o) (h : w0.heap[g']? = some o → w.heap[g']? = some o:=by
 intro q_
 (with_reducible repeat (first | refine blk_drewN ?_ _ | refine blk_drew ?_ | refine blk_alloc ?_ _));exact q_) : W.heap[g']? = some o:=KeepBut.blk hk (h q) n (by simp)
theorem bB_ {w0 w W : World} {g : Nat} {o : Obj} (q : w0.heap[g]? = some o) (hb : Below w.heap.size w W) (h : w0.heap[g]? = some o → w.heap[g]? = some o:=by
 intro q_
 (with_reducible repeat (first | refine blk_drewN ?_ _ | refine blk_drew ?_ | refine blk_alloc ?_ _));exact q_) : W.heap[g]? = some o:=blk_below (h q) hb
theorem e_t {a b : Int} (h : a = b) : (a == b) = true:=beq_iff_eq.mpr h
theorem e_f {a b : Int} (h : ¬a = b) : (a == b) = false:=beq_eq_false_iff_ne.mpr h
theorem n_f {a b : Int} (h : a = b) : (a != b) = false:=bne_eq_false_iff_eq.mpr h
theorem n_t {a b : Int} (h : ¬a = b) : (a != b) = true:=bne_iff_ne.mpr h
theorem D_7 {w : World} {g t : Nat} {v0 v1 v2 v3 v4 v5 v6 : Value} (h : w.heap[g]? = some (.cells #[v0,v1,v2,v3,v4,v5,v6] t (0,0))) : w.cell? ⟨g,0,none⟩ = some v0 ∧ w.cell? ⟨g,1,none⟩ = some v1 ∧ w.cell? ⟨g,2,none⟩ = some v2 ∧ w.cell? ⟨g,3,none⟩ = some v3 ∧ w.cell? ⟨g,4,none⟩ = some v4 ∧ w.cell? ⟨g,5,none⟩ = some v5 ∧ w.cell? ⟨g,6,none⟩ = some v6:=
 ⟨(bc h 0).trans rfl,(bc h 1).trans rfl,(bc h 2).trans rfl,(bc h 3).trans rfl,(bc h 4).trans rfl,(bc h 5).trans rfl,(bc h 6).trans rfl⟩
theorem D_7_ {w : World} {g t : Nat} {v0 v1 v2 v3 v4 v5 v6 : Value} {R : Prop} (h : w.heap[g]? = some (.cells #[v0,v1,v2,v3,v4,v5,v6] t (0,0))) (r : R) : w.cell? ⟨g,0,none⟩ = some v0 ∧ w.cell? ⟨g,1,none⟩ = some v1 ∧ w.cell? ⟨g,2,none⟩ = some v2 ∧ w.cell? ⟨g,3,none⟩ = some v3 ∧ w.cell? ⟨g,4,none⟩ = some v4 ∧ w.cell? ⟨g,5,none⟩ = some v5 ∧ w.cell? ⟨g,6,none⟩ = some v6 ∧ R:=
 ⟨(bc h 0).trans rfl,(bc h 1).trans rfl,(bc h 2).trans rfl,(bc h 3).trans rfl,(bc h 4).trans rfl,(bc h 5).trans rfl,(bc h 6).trans rfl,r⟩
theorem D_10 {w : World} {g t : Nat} {v0 v1 v2 v3 v4 v5 v6 v7 v8 v9 : Value} (h : w.heap[g]? = some (.cells #[v0,v1,v2,v3,v4,v5,v6,v7,v8,v9] t (0,0))) : w.cell? ⟨g,0,none⟩ = some v0 ∧ w.cell? ⟨g,1,none⟩ = some v1 ∧ w.cell? ⟨g,2,none⟩ = some v2 ∧ w.cell? ⟨g,3,none⟩ = some v3 ∧ w.cell? ⟨g,4,none⟩ = some v4 ∧ w.cell? ⟨g,5,none⟩ = some v5 ∧ w.cell? ⟨g,6,none⟩ = some v6 ∧ w.cell? ⟨g,7,none⟩ = some v7 ∧ w.cell? ⟨g,8,none⟩ = some v8 ∧ w.cell? ⟨g,9,none⟩ = some v9:=
 ⟨(bc h 0).trans rfl,(bc h 1).trans rfl,(bc h 2).trans rfl,(bc h 3).trans rfl,(bc h 4).trans rfl,(bc h 5).trans rfl,(bc h 6).trans rfl,(bc h 7).trans rfl,(bc h 8).trans rfl,(bc h 9).trans rfl⟩
theorem D_10_ {w : World} {g t : Nat} {v0 v1 v2 v3 v4 v5 v6 v7 v8 v9 : Value} {R : Prop} (h : w.heap[g]? = some (.cells #[v0,v1,v2,v3,v4,v5,v6,v7,v8,v9] t (0,0))) (r : R) : w.cell? ⟨g,0,none⟩ = some v0 ∧ w.cell? ⟨g,1,none⟩ = some v1 ∧ w.cell? ⟨g,2,none⟩ = some v2 ∧ w.cell? ⟨g,3,none⟩ = some v3 ∧ w.cell? ⟨g,4,none⟩ = some v4 ∧ w.cell? ⟨g,5,none⟩ = some v5 ∧ w.cell? ⟨g,6,none⟩ = some v6 ∧ w.cell? ⟨g,7,none⟩ = some v7 ∧ w.cell? ⟨g,8,none⟩ = some v8 ∧ w.cell? ⟨g,9,none⟩ = some v9 ∧ R:=
 ⟨(bc h 0).trans rfl,(bc h 1).trans rfl,(bc h 2).trans rfl,(bc h 3).trans rfl,(bc h 4).trans rfl,(bc h 5).trans rfl,(bc h 6).trans rfl,(bc h 7).trans rfl,(bc h 8).trans rfl,(bc h 9).trans rfl,r⟩
abbrev P_7 (w : World) (g : Nat) (v0 v1 v2 v3 v4 v5 v6 : Value) : Prop:=w.cell? ⟨g,0,none⟩ = some v0 ∧ w.cell? ⟨g,1,none⟩ = some v1 ∧ w.cell? ⟨g,2,none⟩ = some v2 ∧ w.cell? ⟨g,3,none⟩ = some v3 ∧ w.cell? ⟨g,4,none⟩ = some v4 ∧ w.cell? ⟨g,5,none⟩ = some v5 ∧ w.cell? ⟨g,6,none⟩ = some v6
abbrev P_7_ (w : World) (g : Nat) (v0 v1 v2 v3 v4 v5 v6 : Value) (R : Prop) : Prop:=w.cell? ⟨g,0,none⟩ = some v0 ∧ w.cell? ⟨g,1,none⟩ = some v1 ∧ w.cell? ⟨g,2,none⟩ = some v2 ∧ w.cell? ⟨g,3,none⟩ = some v3 ∧ w.cell? ⟨g,4,none⟩ = some v4 ∧ w.cell? ⟨g,5,none⟩ = some v5 ∧ w.cell? ⟨g,6,none⟩ = some v6 ∧ R
abbrev P_10 (w : World) (g : Nat) (v0 v1 v2 v3 v4 v5 v6 v7 v8 v9 : Value) : Prop:=w.cell? ⟨g,0,none⟩ = some v0 ∧ w.cell? ⟨g,1,none⟩ = some v1 ∧ w.cell? ⟨g,2,none⟩ = some v2 ∧ w.cell? ⟨g,3,none⟩ = some v3 ∧ w.cell? ⟨g,4,none⟩ = some v4 ∧ w.cell? ⟨g,5,none⟩ = some v5 ∧ w.cell? ⟨g,6,none⟩ = some v6 ∧ w.cell? ⟨g,7,none⟩ = some v7 ∧ w.cell? ⟨g,8,none⟩ = some v8 ∧ w.cell? ⟨g,9,none⟩ = some v9
abbrev P_10_ (w : World) (g : Nat) (v0 v1 v2 v3 v4 v5 v6 v7 v8 v9 : Value) (R : Prop) : Prop:=w.cell? ⟨g,0,none⟩ = some v0 ∧ w.cell? ⟨g,1,none⟩ = some v1 ∧ w.cell? ⟨g,2,none⟩ = some v2 ∧ w.cell? ⟨g,3,none⟩ = some v3 ∧ w.cell? ⟨g,4,none⟩ = some v4 ∧ w.cell? ⟨g,5,none⟩ = some v5 ∧ w.cell? ⟨g,6,none⟩ = some v6 ∧ w.cell? ⟨g,7,none⟩ = some v7 ∧ w.cell? ⟨g,8,none⟩ = some v8 ∧ w.cell? ⟨g,9,none⟩ = some v9 ∧ R
abbrev R_10 (w : World) (a : Addr) (v0 v1 v2 v3 v4 v5 v6 v7 v8 v9 : Value) : Prop:=w.cell? a = some v0 ∧ w.cell? ⟨a.block,a.off + 1,none⟩ = some v1 ∧ w.cell? ⟨a.block,a.off + 2,none⟩ = some v2 ∧ w.cell? ⟨a.block,a.off + 3,none⟩ = some v3 ∧ w.cell? ⟨a.block,a.off + 4,none⟩ = some v4 ∧ w.cell? ⟨a.block,a.off + 5,none⟩ = some v5 ∧ w.cell? ⟨a.block,a.off + 6,none⟩ = some v6 ∧ w.cell? ⟨a.block,a.off + 7,none⟩ = some v7 ∧ w.cell? ⟨a.block,a.off + 8,none⟩ = some v8 ∧ w.cell? ⟨a.block,a.off + 9,none⟩ = some v9
abbrev R_10_ (w : World) (a : Addr) (v0 v1 v2 v3 v4 v5 v6 v7 v8 v9 : Value) (R : Prop) : Prop:=w.cell? a = some v0 ∧ w.cell? ⟨a.block,a.off + 1,none⟩ = some v1 ∧ w.cell? ⟨a.block,a.off + 2,none⟩ = some v2 ∧ w.cell? ⟨a.block,a.off + 3,none⟩ = some v3 ∧ w.cell? ⟨a.block,a.off + 4,none⟩ = some v4 ∧ w.cell? ⟨a.block,a.off + 5,none⟩ = some v5 ∧ w.cell? ⟨a.block,a.off + 6,none⟩ = some v6 ∧ w.cell? ⟨a.block,a.off + 7,none⟩ = some v7 ∧ w.cell? ⟨a.block,a.off + 8,none⟩ = some v8 ∧ w.cell? ⟨a.block,a.off + 9,none⟩ = some v9 ∧ R
end Go.Proofs.Ytmgdjmeoljepgaa.PFnProgBelow
