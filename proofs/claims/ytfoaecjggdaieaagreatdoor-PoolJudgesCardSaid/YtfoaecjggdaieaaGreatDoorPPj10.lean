/-
  Part 10 of the lemmas of these laws: PoolJudges.
-/
import Derived.Test.YtfoaecjggdaieaaGreatDoorPPj9
set_option linter.unusedVariables false
set_option linter.unusedSimpArgs false
open Go.Proofs.Tryz
namespace Go.Proofs.YtfoaecjggdaieaaGreatDoor
namespace W
open Go.RowKit G
set_option maxRecDepth 20000
set_option maxHeartbeats 8000000
attribute [local irreducible] RS RX RY Code.wp bodyPost J Ent.blk Ent.irow Ent.iown Ent.wrow Ent.wown Ent.grow Ent.gown Ent.all Ent.emp
instance:Fld prog 61 2 2:=⟨_,_,11,underlying61,rfl,by kernel_rfl,by decide,rfl⟩
instance:Agg prog 57 11:=⟨_,underlying57,rfl,by kernel_rfl⟩
instance:Inf prog 57 11 112 [.int .u32 0, .slice none 0 0, .int .u64 0, .int .u8 0, .string .empty, .int .u8 0, .int .i64 0, .int .u64 0, .string .empty, .int .u32 0, .int .u32 0]:=⟨TI.of (v:= .agg #[.int .u32 0, .slice none 0 0, .int .u64 0, .int .u8 0, .string .empty, .int .u8 0, .int .i64 0, .int .u64 0, .string .empty, .int .u32 0, .int .u32 0]) (by kernel_rfl) rfl⟩
instance:Siz prog 57 11:=⟨by kernel_rfl⟩
instance:Fld prog 57 0 0:=⟨_,_,1,underlying57,rfl,by kernel_rfl,by decide,rfl⟩
instance:Sca prog 47:=⟨_,underlying47,rfl⟩
instance:Fld prog 57 1 1:=⟨_,_,1,underlying57,rfl,by kernel_rfl,by decide,rfl⟩
instance:Sca prog 48:=⟨_,underlying48,rfl⟩
instance:Fld prog 57 2 2:=⟨_,_,1,underlying57,rfl,by kernel_rfl,by decide,rfl⟩
instance:Sca prog 49:=⟨_,underlying49,rfl⟩
instance:Fld prog 57 3 3:=⟨_,_,6,underlying57,rfl,by kernel_rfl,by decide,rfl⟩
instance:Agg prog 53 6:=⟨_,underlying53,rfl,by kernel_rfl⟩
instance:SInf prog 53 [(0,1),(1,1),(2,4)]:=⟨_,underlying53,by kernel_rfl,by kernel_rfl⟩
instance:Inf prog 53 6 64 [.int .u8 0, .string .empty, .int .u8 0, .int .i64 0, .int .u64 0, .string .empty]:=⟨TI.of (v:= .agg #[.int .u8 0, .string .empty, .int .u8 0, .int .i64 0, .int .u64 0, .string .empty]) (by kernel_rfl) rfl⟩
instance:Fld prog 57 4 9:=⟨_,_,2,underlying57,rfl,by kernel_rfl,by decide,rfl⟩
instance:Agg prog 55 2:=⟨_,underlying55,rfl,by kernel_rfl⟩
instance:SInf prog 55 [(0,1),(1,1)]:=⟨_,underlying55,by kernel_rfl,by kernel_rfl⟩
instance:Inf prog 55 2 8 [.int .u32 0, .int .u32 0]:=⟨TI.of (v:= .agg #[.int .u32 0, .int .u32 0]) (by kernel_rfl) rfl⟩
instance:Fld prog 61 3 13:=⟨_,_,32,underlying61,rfl,by kernel_rfl,by decide,rfl⟩
instance:Siz prog 5 1:=⟨by kernel_rfl⟩
instance:Und prog 5 (.int .u8):=⟨underlying5⟩
instance:Fld prog 61 0 0:=⟨_,_,1,underlying61,rfl,by kernel_rfl,by decide,rfl⟩
instance:Sca prog 3:=⟨_,underlying3,rfl⟩
instance:Ents prog 38:=⟨.mk func38 (by kernel_rfl) rfl⟩
instance:Fld prog 61 1 1:=⟨_,_,1,underlying61,rfl,by kernel_rfl,by decide,rfl⟩
instance:Sca prog 5:=⟨_,underlying5,rfl⟩
instance:Ents prog 52:=⟨.mk func52 (by kernel_rfl) rfl⟩
instance:Ents prog 51:=⟨.mk func51 (by kernel_rfl) rfl⟩
instance:Agg prog 61 45:=⟨_,underlying61,rfl,by kernel_rfl⟩
instance:Ents prog 62:=⟨.mk func62 (by kernel_rfl) rfl⟩
structure JdA where
 (t v:Int)(o:OpA)(id:List Int)(h:id.length=32)
@[reducible] def jdC(j:JdA):List Value:= .int .i64 j.t:: .int .u8 j.v::(opC j.o++ints .u8 j.id)
@[reducible] def JdA.V(j:JdA):S.JdV:=⟨j.t,j.v,j.o.o,j.id⟩
theorem jdC_len{j:JdA}(h:j.id.length=32):(jdC j).length=45:=by
 show(ints .u8 j.id).length+13=45;rw[ints_length,h]
theorem jdC_id{j:JdA}(h:j.id.length=32):((jdC j).drop 13).take 32=ints .u8 j.id:=by
 show(ints .u8 j.id).take 32=_;exact List.take_of_length_le (by rw[ints_length,h];exact Nat.le_refl _)
theorem jdC_all{j:JdA}(h:j.id.length=32):((jdC j).drop 0).take 45=jdC j:=List.take_of_length_le (by rw[List.drop_zero,jdC_len h];exact Nat.le_refl _)
structure JdR(S0:Nat→Prop)(w:World)(j:JdA):Prop where
 o:OpR S0 w j.o
 id:Arr .u8 32 j.id
theorem JdR.ext{S0:Nat→Prop}{w w':World}{j:JdA}(h:JdR S0 w j)(x:Ext w w'):JdR S0 w' j:=⟨h.o.ext x,h.id⟩
theorem poolTicket(t:Int)(w:World):Calls prog 38 #[.int .i64 t] w (Ret w fun v _=>v= .bool (decide (S.TickP t))):=by
 refine J.enter 8 func38 rfl rfl ?_;refine run ?_;refine J.spd rfl rfl rfl (fun c=>?_) (fun c=>?_)
 ·refine run ?_;exact J.fin (congrArg _ (decide_eq_decide.2 ⟨fun h=>⟨c,h⟩,fun h=>h.2⟩))
 refine run ?_;exact J.fin (congrArg _ (decide_eq_false fun h=>c h.1).symm)
theorem poolNone{S0:Nat→Prop}(j:JdA)(w:World)(R:JdR S0 w j):
  Calls prog 62 #[.agg (jdC j).toArray] w (Ret w fun v _=>v= .bool (decide (S.NoO j.o.o j.id))):=by
 have hid:=R.id;have hi:=S.noO_iff (o:=j.o.o) (id:=j.id) R.o.row.len;have no:¬(j.o.o.au=0∧j.o.o.n=0∧j.o.o.st=0∧(j.o.o.k=0∧j.o.o.key= .empty∧j.o.o.vk=0∧j.o.o.num=0∧j.o.o.bits=0∧j.o.o.t= .empty)∧(j.o.o.e=0∧j.o.o.s=0)∧j.id=List.replicate 32 0)→Value.bool false= .bool (decide (S.NoO j.o.o j.id)):=fun h=>congrArg _ (decide_eq_false fun k=>h (hi.1 k)).symm;refine J.enter 37 func62 rfl rfl ?_;refine run ?_;refine J.box rfl rfl rfl fun b1=>?_
 refine run ?_;refine J.alloc rfl fun b3=>?_
 refine run ?_;refine J.spe rfl rfl rfl (fun c1=>?_) (fun c1=>?_)
 rotate_left
 ·refine run ?_;exact J.fin (no fun h=>c1 h.1)
 refine run ?_;refine J.spe rfl rfl rfl (fun c2=>?_) (fun c2=>?_)
 rotate_left
 ·refine run ?_;exact J.fin (no fun h=>c2 (by have:=h.2.1;omega))
 refine run ?_;refine J.spe rfl rfl rfl (fun c3=>?_) (fun c3=>?_)
 rotate_left
 ·refine run ?_;exact J.fin (no fun h=>c3 h.2.2.1)
 refine run ?_;refine J.eqR rfl rfl rfl (fits_actD _ _ _ _ _ _) (fits_actD _ _ _ _ _ _) (S.eqA6 _ _ _ _ _ _ _ _ _ _ _ _) ?_;refine run ?_;refine J.spd rfl rfl rfl (fun c4=>?_) (fun c4=>?_)
 rotate_left
 ·refine run ?_;exact J.fin (no fun h=>c4 h.2.2.2.1)
 refine run ?_;refine J.eqR rfl rfl rfl (fits_sigD _ _) (fits_sigD _ _) (S.eqS2 _ _ _ _) ?_;refine run ?_;refine J.spd rfl rfl rfl (fun c5=>?_) (fun c5=>?_)
 rotate_left
 ·refine run ?_;exact J.fin (no fun h=>c5 h.2.2.2.2.1)
 refine run ?_;refine J.ldp rfl ?_ (hv:=jdC_id hid.1) (hn:=by rw[ints_length,hid.1]);refine run ?_;refine J.bz rfl ?_;refine run ?_;exact J.fin (congrArg _ (decide_eq_decide.2 ⟨fun h=>hi.2 ⟨c1,by omega,c3,c4,c5,h⟩,fun h=>(hi.1 h).2.2.2.2.2⟩))
theorem poolFinding{S0:Nat→Prop}(j:JdA)(TK:TypeId)(w:World)(K0:Kst w TK)(R:JdR S0 w j):
  Calls prog 44 #[.agg (jdC j).toArray] w (Ret w fun v _=>v= .bool (decide (S.FindP j.V))):=by
 have hid:=R.id;have RO:=R.o;have no:¬S.FindP j.V→Value.bool false= .bool (decide (S.FindP j.V)):=fun h=>congrArg _ (decide_eq_false h).symm;refine J.enter 38 func44 rfl rfl ?_;refine run ?_;refine J.box rfl rfl rfl fun b1=>?_
 refine run ?_;refine J.callp rfl rfl (fun w' M=>poolTicket j.t w') ?_;refine run ?_;refine J.ifnot rfl (fun c1=>?_) (fun c1=>?_)
 ·refine run ?_;exact J.fin (no fun h=>of_decide_eq_false c1 h.1)
 have ht:S.TickP j.V.t:=of_decide_eq_true c1;have en:(j.v=2∨j.v=3∨j.v=4)→decide (S.NoO j.o.o j.id)=decide (S.FindP j.V):=fun h=>decide_eq_decide.2 (S.find_n (j:=j.V) ht h).symm;refine run ?_;refine J.ife rfl (fun c2=>?_) (fun c2=>?_)
 ·have hf:=S.find_0 (j:=j.V) ht c2;have hA:Arr .u8 32 (if S.checkE j.o.o=0 then S.sha (S.encS j.o.o)else List.replicate 32 0):=by
   split
   ·exact S.sha_arr _
   exact⟨by simp,fun x hx=>by rw[List.mem_replicate]at hx;rw[hx.2];simp only[lim];omega⟩
  refine run ?_;refine J.callp rfl rfl (fun w' M=>idO j.o.o RO.ok _ _ _ w' (K0.ext M.ext) (RO.row.ext M.ext) RO.cap) ?_;refine run ?_;refine J.alloc rfl fun b3=>?_
  refine run ?_;refine J.spe rfl rfl rfl (fun c3=>?_) (fun c3=>?_)
  rotate_left
  ·refine run ?_;exact J.fin (no fun h=>c3 (S.verE_check (hf.1 h).1))
  refine run ?_;refine J.ldp rfl ?_ (hv:=jdC_id hid.1) (hn:=by rw[ints_length,hid.1]);refine run ?_;refine J.spd rfl rfl rfl (fun c4=>?_) (fun c4=>?_)
  rotate_left
  ·refine run ?_;exact J.fin (no fun h=>c4 (by rw[if_pos c3];exact(hf.1 h).2))
  rw[if_pos c3]at c4;refine run ?_;refine J.callp rfl rfl (fun w' M=>verifyO j.o.o RO.ok _ _ _ w' (K0.ext M.ext) (RO.row.ext M.ext) RO.cap) ?_;refine run ?_;refine J.fin (congrArg _ ?_);by_cases h:S.verE j.o.o=0
  ·rw[decide_eq_true (hf.2 ⟨h,c4⟩),h];rfl
  rw[decide_eq_false fun k=>h (hf.1 k).1];simpa using h
 refine run ?_;refine J.ife rfl (fun c3=>?_) (fun c3=>?_)
 ·refine run ?_;refine J.ife rfl (fun _=>?_) (fun c=>absurd c3 c);refine run ?_;refine J.ldp rfl ?_ (hv:=jdC_all hid.1) (hn:=jdC_len hid.1);refine J.callp rfl rfl (fun w' M=>poolNone j w' (R.ext M.ext)) ?_;refine run ?_;exact J.fin (congrArg Value.bool (en (.inl c3)))
 refine run ?_;refine J.ife rfl (fun c4=>?_) (fun c4=>?_)
 ·refine run ?_;refine J.ife rfl (fun _=>?_) (fun c=>absurd c4 c);refine run ?_;refine J.ldp rfl ?_ (hv:=jdC_all hid.1) (hn:=jdC_len hid.1);refine J.callp rfl rfl (fun w' M=>poolNone j w' (R.ext M.ext)) ?_;refine run ?_;exact J.fin (congrArg Value.bool (en (.inr (.inl c4))))
 refine run ?_;refine J.ife rfl (fun c5=>?_) (fun c5=>?_)
 ·skip
  refine run ?_;refine J.ldp rfl ?_ (hv:=jdC_all hid.1) (hn:=jdC_len hid.1);refine J.callp rfl rfl (fun w' M=>poolNone j w' (R.ext M.ext)) ?_;refine run ?_;exact J.fin (congrArg Value.bool (en (.inr (.inr c5))))
 refine run ?_;exact J.fin (no (S.find_x (j:=j.V) c2 (by show ¬(j.v=2∨j.v=3∨j.v=4);omega)))
instance:Ents prog 37:=⟨.mk func37 (by kernel_rfl) rfl⟩
instance:Ents prog 64:=⟨.mk func64 (by kernel_rfl) rfl⟩
instance:Ents prog 65:=⟨.mk func65 (by kernel_rfl) rfl⟩
instance:SInf prog 61 [(0,1),(1,1),(2,11),(13,32)]:=⟨_,underlying61,by kernel_rfl,by kernel_rfl⟩
instance:Inf prog 61 45 160 [.int .i64 0, .int .u8 0, .int .u32 0, .slice none 0 0, .int .u64 0, .int .u8 0, .string .empty, .int .u8 0, .int .i64 0, .int .u64 0, .string .empty, .int .u32 0, .int .u32 0, .int .u8 0, .int .u8 0, .int .u8 0, .int .u8 0, .int .u8 0, .int .u8 0, .int .u8 0, .int .u8 0, .int .u8 0, .int .u8 0, .int .u8 0, .int .u8 0, .int .u8 0, .int .u8 0, .int .u8 0, .int .u8 0, .int .u8 0, .int .u8 0, .int .u8 0, .int .u8 0, .int .u8 0, .int .u8 0, .int .u8 0, .int .u8 0, .int .u8 0, .int .u8 0, .int .u8 0, .int .u8 0, .int .u8 0, .int .u8 0, .int .u8 0, .int .u8 0]:=⟨TI.of (v:= .agg #[.int .i64 0, .int .u8 0, .int .u32 0, .slice none 0 0, .int .u64 0, .int .u8 0, .string .empty, .int .u8 0, .int .i64 0, .int .u64 0, .string .empty, .int .u32 0, .int .u32 0, .int .u8 0, .int .u8 0, .int .u8 0, .int .u8 0, .int .u8 0, .int .u8 0, .int .u8 0, .int .u8 0, .int .u8 0, .int .u8 0, .int .u8 0, .int .u8 0, .int .u8 0, .int .u8 0, .int .u8 0, .int .u8 0, .int .u8 0, .int .u8 0, .int .u8 0, .int .u8 0, .int .u8 0, .int .u8 0, .int .u8 0, .int .u8 0, .int .u8 0, .int .u8 0, .int .u8 0, .int .u8 0, .int .u8 0, .int .u8 0, .int .u8 0, .int .u8 0]) (by kernel_rfl) rfl⟩
instance:Ents prog 18:=⟨.mk func18 (by kernel_rfl) rfl⟩
theorem refSameJd{S0 S1:Nat→Prop}(j k:JdA)(w:World)(R:JdR S0 w j)(R2:JdR S1 w k):
  Calls prog 18 #[.agg (jdC j).toArray, .agg (jdC k).toArray] w (Ret w fun v _=>v= .bool (decide (S.SameJ j.V k.V))):=by
 have hid:=R.id;have hid2:=R2.id;have no:¬S.SameJ j.V k.V→Value.bool false= .bool (decide (S.SameJ j.V k.V)):=fun h=>congrArg _ (decide_eq_false h).symm;refine J.enter 29 func18 rfl rfl ?_;refine run ?_;refine J.box rfl rfl rfl fun b1=>?_
 refine J.box rfl rfl rfl fun b2=>?_
 refine run ?_;refine J.spe rfl rfl rfl (fun c1=>?_) (fun c1=>?_)
 rotate_left
 ·refine run ?_;exact J.fin (no fun h=>c1 h.1)
 refine run ?_;refine J.spe rfl rfl rfl (fun c2=>?_) (fun c2=>?_)
 rotate_left
 ·refine run ?_;exact J.fin (no fun h=>c2 h.2.1)
 refine run ?_;refine J.ldp rfl ?_ (hv:=jdC_id hid.1) (hn:=by rw[ints_length,hid.1]);refine run ?_;refine J.ldp rfl ?_ (hv:=jdC_id hid2.1) (hn:=by rw[ints_length,hid2.1]);refine run ?_;refine J.spd rfl rfl rfl (fun c3=>?_) (fun c3=>?_)
 rotate_left
 ·refine run ?_;exact J.fin (no fun h=>c3 h.2.2.1)
 refine run ?_;refine J.callp rfl rfl (fun w' M=>sameO j.o.o k.o.o R.o.ok R2.o.ok _ _ _ _ w' (R.o.row.ext M.ext) (R2.o.row.ext M.ext)) ?_;refine run ?_;exact J.fin (congrArg Value.bool (decide_eq_decide.2 ⟨fun h=>⟨c1,c2,c3,h⟩,fun h=>h.2.2.2⟩))
theorem jdZ{S0:Nat→Prop}(t v:Int)(w:World):JdR S0 w ⟨t,v,⟨S.OpV.zero,none,0⟩,List.replicate 32 0,rfl⟩:=⟨⟨S.OpV.zero_ok,WRow.nil,Nat.le_refl _⟩,by simp,fun x hx=>by rw[List.mem_replicate]at hx;rw[hx.2];simp only[lim];omega⟩
theorem refFinding{S0:Nat→Prop}(j:JdA)(w:World)(R:JdR S0 w j):
  Calls prog 48 #[.agg (jdC j).toArray] w (Ret w fun v _=>v= .bool (decide (S.FindP j.V))):=by
 have hid:=R.id;have RO:=R.o;have gone:¬S.FindP j.V→Value.bool false= .bool (decide (S.FindP j.V)):=fun h=>congrArg _ (decide_eq_false h).symm;refine J.enter 57 func48 rfl rfl ?_;refine run ?_;refine J.box rfl rfl rfl fun b1=>?_
 refine run ?_;refine J.spd rfl rfl rfl (fun c1=>?_) (fun c1=>?_)
 ·refine run ?_;exact J.fin (gone fun h=>by have h1:0≤j.t:=h.1.1;omega)
 refine run ?_;refine J.ifd rfl (fun c2=>?_) (fun c2=>?_)
 ·refine run ?_;exact J.fin (gone fun h=>by have h1:j.t≤1000000000:=h.1.2;omega)
 have ht:S.TickP j.V.t:=⟨by show 0≤j.t;omega,by show j.t≤1000000000;omega⟩
 have en:(j.v=2∨j.v=3∨j.v=4)→decide (S.SameJ j.V ⟨j.t,j.v,S.OpV.zero,List.replicate 32 0⟩)=decide (S.FindP j.V):=fun h=>decide_eq_decide.2 ((S.sameJ_none (j:=j.V)).trans (S.find_n (j:=j.V) ht h).symm);refine run ?_;refine J.ife rfl (fun c3=>?_) (fun c3=>?_)
 ·have hf:=S.find_0 (j:=j.V) ht c3;have hA:Arr .u8 32 (if S.checkE j.o.o=0 then S.sha (S.encS j.o.o)else List.replicate 32 0):=by
   split
   ·exact S.sha_arr _
   exact⟨by simp,fun x hx=>by rw[List.mem_replicate]at hx;rw[hx.2];simp only[lim];omega⟩
  refine run ?_;refine J.callp rfl rfl (fun w' M=>idOR j.o.o RO.ok _ _ w' (RO.row.ext M.ext) RO.cap) ?_;refine run ?_;refine J.alloc rfl fun b3=>?_
  refine run ?_;refine J.spe rfl rfl rfl (fun c4=>?_) (fun c4=>?_)
  rotate_left
  ·refine run ?_;exact J.fin (gone fun h=>c4 (S.verE_check (hf.1 h).1))
  refine run ?_;refine J.ldp rfl ?_ (hv:=jdC_id hid.1) (hn:=by rw[ints_length,hid.1]);refine run ?_;refine J.spd rfl rfl rfl (fun c5=>?_) (fun c5=>?_)
  rotate_left
  ·refine run ?_;exact J.fin (gone fun h=>c5 (by rw[if_pos c4];exact(hf.1 h).2))
  rw[if_pos c4]at c5;refine run ?_;refine J.callp rfl rfl (fun w' M=>verifyOR j.o.o RO.ok _ _ w' (RO.row.ext M.ext) RO.cap) ?_;refine run ?_;refine J.fin (congrArg Value.bool ?_);by_cases h:S.verE j.o.o=0
  ·rw[decide_eq_true (hf.2 ⟨h,c5⟩),h];rfl
  rw[decide_eq_false fun k=>h (hf.1 k).1];simpa using h
 refine run ?_;refine J.spe rfl rfl rfl (fun c4=>?_) (fun c4=>?_)
 ·skip
  refine run ?_;refine J.ldp rfl ?_ (hv:=jdC_all hid.1) (hn:=jdC_len hid.1);refine run ?_;refine J.callp rfl rfl (fun w' M=>refSameJd (S1:=no) j ⟨j.t,j.v,⟨S.OpV.zero,none,0⟩,List.replicate 32 0,rfl⟩ w' (R.ext M.ext) (jdZ j.t j.v w')) ?_;refine run ?_;exact J.fin (congrArg Value.bool (en (.inl c4)))
 refine run ?_;refine J.spe rfl rfl rfl (fun c5=>?_) (fun c5=>?_)
 ·skip
  refine run ?_;refine J.ldp rfl ?_ (hv:=jdC_all hid.1) (hn:=jdC_len hid.1);refine run ?_;refine J.callp rfl rfl (fun w' M=>refSameJd (S1:=no) j ⟨j.t,j.v,⟨S.OpV.zero,none,0⟩,List.replicate 32 0,rfl⟩ w' (R.ext M.ext) (jdZ j.t j.v w')) ?_;refine run ?_;exact J.fin (congrArg Value.bool (en (.inr (.inl c5))))
 refine run ?_;refine J.spe rfl rfl rfl (fun c6=>?_) (fun c6=>?_)
 ·skip
  refine run ?_;refine J.ldp rfl ?_ (hv:=jdC_all hid.1) (hn:=jdC_len hid.1);refine run ?_;refine J.callp rfl rfl (fun w' M=>refSameJd (S1:=no) j ⟨j.t,j.v,⟨S.OpV.zero,none,0⟩,List.replicate 32 0,rfl⟩ w' (R.ext M.ext) (jdZ j.t j.v w')) ?_;refine run ?_;exact J.fin (congrArg Value.bool (en (.inr (.inr c6))))
 refine run ?_;exact J.fin (gone (S.find_x (j:=j.V) c3 (by show ¬(j.v=2∨j.v=3∨j.v=4);omega)))
instance:Fld prog 67 1 1:=⟨_,_,2,underlying67,rfl,by kernel_rfl,by decide,rfl⟩
instance:Fld prog 65 0 0:=⟨_,_,1,underlying65,rfl,by kernel_rfl,by decide,rfl⟩
instance:Fld prog 65 1 1:=⟨_,_,1,underlying65,rfl,by kernel_rfl,by decide,rfl⟩
instance:Sca prog 63:=⟨_,underlying63,rfl⟩
instance:Und prog 63 (.slice 5):=⟨underlying63⟩
instance:Fld prog 67 2 3:=⟨_,_,45,underlying67,rfl,by kernel_rfl,by decide,rfl⟩
instance:Fld prog 67 0 0:=⟨_,_,1,underlying67,rfl,by kernel_rfl,by decide,rfl⟩
instance:Ents prog 44:=⟨.mk func44 (by kernel_rfl) rfl⟩
structure HdA where
 (s jt:Int)(ba:Option Addr)(bn bc:Nat)(bs:List Int)(j:JdA)
@[reducible] def hdC(h:HdA):List Value:= .int .u8 h.s:: .int .i64 h.jt:: .slice h.ba h.bn h.bc::jdC h.j
theorem hdC_len{h:HdA}(k:h.j.id.length=32):(hdC h).length=48:=by
 show(jdC h.j).length+3=48;rw[jdC_len k]
theorem hdC_jd{h:HdA}(k:h.j.id.length=32):((hdC h).drop 3).take 45=jdC h.j:=by
 show(jdC h.j).take 45=_;exact List.take_of_length_le (by rw[jdC_len k];exact Nat.le_refl _)
def JobZ(h:HdA):Prop:=h.jt=0∧h.bn=0
def JudZ(h:HdA):Prop:=S.NoO h.j.o.o h.j.id∧h.j.t=0∧h.j.v=0
instance(h:HdA):Decidable (JobZ h):=by unfold JobZ;infer_instance
instance(h:HdA):Decidable (JudZ h):=by unfold JudZ;infer_instance
def HandT(h:HdA):Int:=if h.s=1 then h.jt else if h.s=2 then h.j.t else -1
def HandP(h:HdA):Prop:=(h.s=0∧JobZ h∧JudZ h)∨(h.s=1∧JudZ h∧S.TickP h.jt)∨(h.s=2∧JobZ h∧S.FindP h.j.V)
instance(h:HdA):Decidable (HandP h):=by unfold HandP;infer_instance
theorem hand_0{h:HdA}(hs:h.s=0):HandT h= -1∧(HandP h↔JobZ h∧JudZ h):=by
 unfold HandT HandP;rw[hs];simp
theorem hand_1{h:HdA}(hs:h.s=1):HandT h=h.jt∧(HandP h↔JudZ h∧S.TickP h.jt):=by
 unfold HandT HandP;rw[hs];simp
theorem hand_2{h:HdA}(hs:h.s=2):HandT h=h.j.t∧(HandP h↔JobZ h∧S.FindP h.j.V):=by
 unfold HandT HandP;rw[hs];simp
theorem hand_x{h:HdA}(h0:h.s≠0)(h1:h.s≠1)(h2:h.s≠2):HandT h= -1∧¬HandP h:=by
 unfold HandT HandP;simp[h0,h1,h2]
theorem poolHand{S0:Nat→Prop}(h:HdA)(TK:TypeId)(w:World)(K0:Kst w TK)(R:JdR S0 w h.j):
  Calls prog 45 #[.agg (hdC h).toArray] w (Ret w fun v _=>v= .tuple #[.int .i64 (HandT h), .bool (decide (HandP h))]):=by
 have hid:=R.id;refine J.enter 62 func45 rfl rfl ?_;refine run ?_;refine J.box rfl rfl rfl fun b1=>?_
 refine run ?_;refine J.spe rfl rfl rfl (fun c1=>?_) (fun c1=>?_)
 ·skip
  refine run ?_;refine J.ldp rfl ?_ (hv:=hdC_jd hid.1) (hn:=jdC_len hid.1);refine J.callp rfl rfl (fun w' M=>poolNone h.j w' (R.ext M.ext)) ?_;refine run ?_;refine J.spd rfl rfl rfl (fun c2=>?_) (fun c2=>?_)
  ·refine run ?_;refine J.spe rfl rfl rfl (fun c3=>?_) (fun c3=>?_)
   ·skip
    refine run ?_;refine J.ife rfl (fun s0=>?_) (fun s0=>?_)
    ·refine run ?_;refine J.spe rfl rfl rfl (fun d1=>?_) (fun d1=>?_)
     ·have e9:h.bn=0:=by omega
      refine run ?_;refine J.fin (tup2 (congrArg _ (hand_0 s0).1.symm) (congrArg Value.bool ?_));rw[Bool.eq_iff_iff];simp[(hand_0 s0).2,JobZ,JudZ, *]
     have e9:h.bn≠0:=by omega
     refine run ?_;refine J.fin (tup2 (congrArg _ (hand_0 s0).1.symm) (congrArg Value.bool ?_));rw[Bool.eq_iff_iff];simp[(hand_0 s0).2,JobZ,JudZ, *]
    refine run ?_;refine J.ife rfl (fun s1=>?_) (fun s1=>?_)
    ·refine run ?_;refine J.regionX [(0, .q),(1, .q),(2, .q),(3, .q),(4, .q),(5, .q),(6, .q),(7, .q),(8, .e),(9, .q),(10, .q),(11, .q)] mixed (by kernel_rfl) ?_;refine run ?_;refine J.spe rfl rfl rfl (fun d2=>?_) (fun d2=>?_)
     ·refine run ?_;refine J.callp rfl rfl (fun w' M=>poolTicket h.jt w') ?_;refine run ?_;refine J.fin (tup2 (congrArg _ (hand_1 s1).1.symm) (congrArg Value.bool ?_));rw[Bool.eq_iff_iff];simp[(hand_1 s1).2,JobZ,JudZ, *]
     refine run ?_;refine J.fin (tup2 (congrArg _ (hand_1 s1).1.symm) (congrArg Value.bool ?_));rw[Bool.eq_iff_iff];simp[(hand_1 s1).2,JobZ,JudZ, *]
    refine run ?_;refine J.ife rfl (fun s2=>?_) (fun s2=>?_)
    ·refine run ?_;refine J.regionX [(0, .q),(1, .q),(2, .q),(3, .q),(4, .q),(5, .q),(6, .q),(7, .e),(8, .q),(9, .q),(10, .q)] mixed (by kernel_rfl) ?_;refine run ?_;refine J.spe rfl rfl rfl (fun d3=>?_) (fun d3=>?_)
     ·have e9:h.bn=0:=by omega
      refine run ?_;refine J.ldp rfl ?_ (hv:=hdC_jd hid.1) (hn:=jdC_len hid.1);refine run ?_;refine J.callp rfl rfl (fun w' M=>poolFinding h.j TK w' (K0.ext M.ext) (R.ext M.ext)) ?_;refine run ?_;refine J.fin (tup2 (congrArg _ (hand_2 s2).1.symm) (congrArg Value.bool ?_));rw[Bool.eq_iff_iff];simp[(hand_2 s2).2,JobZ,JudZ, *]
     have e9:h.bn≠0:=by omega
     refine run ?_;refine J.fin (tup2 (congrArg _ (hand_2 s2).1.symm) (congrArg Value.bool ?_));rw[Bool.eq_iff_iff];simp[(hand_2 s2).2,JobZ,JudZ, *]
    refine run ?_;refine J.fin (tup2 (congrArg _ (hand_x s0 s1 s2).1.symm) (congrArg Value.bool (decide_eq_false (hand_x s0 s1 s2).2).symm))
   skip
   refine run ?_;refine J.ife rfl (fun s0=>?_) (fun s0=>?_)
   ·refine run ?_;refine J.spe rfl rfl rfl (fun d1=>?_) (fun d1=>?_)
    ·have e9:h.bn=0:=by omega
     refine run ?_;refine J.fin (tup2 (congrArg _ (hand_0 s0).1.symm) (congrArg Value.bool ?_));rw[Bool.eq_iff_iff];simp[(hand_0 s0).2,JobZ,JudZ, *]
    have e9:h.bn≠0:=by omega
    refine run ?_;refine J.fin (tup2 (congrArg _ (hand_0 s0).1.symm) (congrArg Value.bool ?_));rw[Bool.eq_iff_iff];simp[(hand_0 s0).2,JobZ,JudZ, *]
   refine run ?_;refine J.ife rfl (fun s1=>?_) (fun s1=>?_)
   ·refine run ?_;refine J.regionX [(0, .q),(1, .q),(2, .q),(3, .q),(4, .q),(5, .q),(6, .q),(7, .q),(8, .e),(9, .q),(10, .q),(11, .q)] mixed (by kernel_rfl) ?_;refine run ?_;refine J.fin (tup2 (congrArg _ (hand_1 s1).1.symm) (congrArg Value.bool ?_));rw[Bool.eq_iff_iff];simp[(hand_1 s1).2,JobZ,JudZ, *]
   refine run ?_;refine J.ife rfl (fun s2=>?_) (fun s2=>?_)
   ·refine run ?_;refine J.regionX [(0, .q),(1, .q),(2, .q),(3, .q),(4, .q),(5, .q),(6, .q),(7, .e),(8, .q),(9, .q),(10, .q)] mixed (by kernel_rfl) ?_;refine run ?_;refine J.spe rfl rfl rfl (fun d3=>?_) (fun d3=>?_)
    ·have e9:h.bn=0:=by omega
     refine run ?_;refine J.ldp rfl ?_ (hv:=hdC_jd hid.1) (hn:=jdC_len hid.1);refine run ?_;refine J.callp rfl rfl (fun w' M=>poolFinding h.j TK w' (K0.ext M.ext) (R.ext M.ext)) ?_;refine run ?_;refine J.fin (tup2 (congrArg _ (hand_2 s2).1.symm) (congrArg Value.bool ?_));rw[Bool.eq_iff_iff];simp[(hand_2 s2).2,JobZ,JudZ, *]
    have e9:h.bn≠0:=by omega
    refine run ?_;refine J.fin (tup2 (congrArg _ (hand_2 s2).1.symm) (congrArg Value.bool ?_));rw[Bool.eq_iff_iff];simp[(hand_2 s2).2,JobZ,JudZ, *]
   refine run ?_;refine J.fin (tup2 (congrArg _ (hand_x s0 s1 s2).1.symm) (congrArg Value.bool (decide_eq_false (hand_x s0 s1 s2).2).symm))
  skip
  refine run ?_;refine J.ife rfl (fun s0=>?_) (fun s0=>?_)
  ·refine run ?_;refine J.spe rfl rfl rfl (fun d1=>?_) (fun d1=>?_)
   ·have e9:h.bn=0:=by omega
    refine run ?_;refine J.fin (tup2 (congrArg _ (hand_0 s0).1.symm) (congrArg Value.bool ?_));rw[Bool.eq_iff_iff];simp[(hand_0 s0).2,JobZ,JudZ, *]
   have e9:h.bn≠0:=by omega
   refine run ?_;refine J.fin (tup2 (congrArg _ (hand_0 s0).1.symm) (congrArg Value.bool ?_));rw[Bool.eq_iff_iff];simp[(hand_0 s0).2,JobZ,JudZ, *]
  refine run ?_;refine J.ife rfl (fun s1=>?_) (fun s1=>?_)
  ·refine run ?_;refine J.regionX [(0, .q),(1, .q),(2, .q),(3, .q),(4, .q),(5, .q),(6, .q),(7, .q),(8, .e),(9, .q),(10, .q),(11, .q)] mixed (by kernel_rfl) ?_;refine run ?_;refine J.fin (tup2 (congrArg _ (hand_1 s1).1.symm) (congrArg Value.bool ?_));rw[Bool.eq_iff_iff];simp[(hand_1 s1).2,JobZ,JudZ, *]
  refine run ?_;refine J.ife rfl (fun s2=>?_) (fun s2=>?_)
  ·refine run ?_;refine J.regionX [(0, .q),(1, .q),(2, .q),(3, .q),(4, .q),(5, .q),(6, .q),(7, .e),(8, .q),(9, .q),(10, .q)] mixed (by kernel_rfl) ?_;refine run ?_;refine J.spe rfl rfl rfl (fun d3=>?_) (fun d3=>?_)
   ·have e9:h.bn=0:=by omega
    refine run ?_;refine J.ldp rfl ?_ (hv:=hdC_jd hid.1) (hn:=jdC_len hid.1);refine run ?_;refine J.callp rfl rfl (fun w' M=>poolFinding h.j TK w' (K0.ext M.ext) (R.ext M.ext)) ?_;refine run ?_;refine J.fin (tup2 (congrArg _ (hand_2 s2).1.symm) (congrArg Value.bool ?_));rw[Bool.eq_iff_iff];simp[(hand_2 s2).2,JobZ,JudZ, *]
   have e9:h.bn≠0:=by omega
   refine run ?_;refine J.fin (tup2 (congrArg _ (hand_2 s2).1.symm) (congrArg Value.bool ?_));rw[Bool.eq_iff_iff];simp[(hand_2 s2).2,JobZ,JudZ, *]
  refine run ?_;refine J.fin (tup2 (congrArg _ (hand_x s0 s1 s2).1.symm) (congrArg Value.bool (decide_eq_false (hand_x s0 s1 s2).2).symm))
 skip
 refine run ?_;refine J.ldp rfl ?_ (hv:=hdC_jd hid.1) (hn:=jdC_len hid.1);refine J.callp rfl rfl (fun w' M=>poolNone h.j w' (R.ext M.ext)) ?_;refine run ?_;refine J.spd rfl rfl rfl (fun c2=>?_) (fun c2=>?_)
 ·refine run ?_;refine J.spe rfl rfl rfl (fun c3=>?_) (fun c3=>?_)
  ·skip
   refine run ?_;refine J.ife rfl (fun s0=>?_) (fun s0=>?_)
   ·refine run ?_;refine J.fin (tup2 (congrArg _ (hand_0 s0).1.symm) (congrArg Value.bool ?_));rw[Bool.eq_iff_iff];simp[(hand_0 s0).2,JobZ,JudZ, *]
   refine run ?_;refine J.ife rfl (fun s1=>?_) (fun s1=>?_)
   ·refine run ?_;refine J.regionX [(0, .q),(1, .q),(2, .q),(3, .q),(4, .q),(5, .q),(6, .q),(7, .q),(8, .e),(9, .q),(10, .q),(11, .q)] mixed (by kernel_rfl) ?_;refine run ?_;refine J.spe rfl rfl rfl (fun d2=>?_) (fun d2=>?_)
    ·refine run ?_;refine J.callp rfl rfl (fun w' M=>poolTicket h.jt w') ?_;refine run ?_;refine J.fin (tup2 (congrArg _ (hand_1 s1).1.symm) (congrArg Value.bool ?_));rw[Bool.eq_iff_iff];simp[(hand_1 s1).2,JobZ,JudZ, *]
    refine run ?_;refine J.fin (tup2 (congrArg _ (hand_1 s1).1.symm) (congrArg Value.bool ?_));rw[Bool.eq_iff_iff];simp[(hand_1 s1).2,JobZ,JudZ, *]
   refine run ?_;refine J.ife rfl (fun s2=>?_) (fun s2=>?_)
   ·refine run ?_;refine J.regionX [(0, .q),(1, .q),(2, .q),(3, .q),(4, .q),(5, .q),(6, .q),(7, .e),(8, .q),(9, .q),(10, .q)] mixed (by kernel_rfl) ?_;refine run ?_;refine J.fin (tup2 (congrArg _ (hand_2 s2).1.symm) (congrArg Value.bool ?_));rw[Bool.eq_iff_iff];simp[(hand_2 s2).2,JobZ,JudZ, *]
   refine run ?_;refine J.fin (tup2 (congrArg _ (hand_x s0 s1 s2).1.symm) (congrArg Value.bool (decide_eq_false (hand_x s0 s1 s2).2).symm))
  skip
  refine run ?_;refine J.ife rfl (fun s0=>?_) (fun s0=>?_)
  ·refine run ?_;refine J.fin (tup2 (congrArg _ (hand_0 s0).1.symm) (congrArg Value.bool ?_));rw[Bool.eq_iff_iff];simp[(hand_0 s0).2,JobZ,JudZ, *]
  refine run ?_;refine J.ife rfl (fun s1=>?_) (fun s1=>?_)
  ·refine run ?_;refine J.regionX [(0, .q),(1, .q),(2, .q),(3, .q),(4, .q),(5, .q),(6, .q),(7, .q),(8, .e),(9, .q),(10, .q),(11, .q)] mixed (by kernel_rfl) ?_;refine run ?_;refine J.fin (tup2 (congrArg _ (hand_1 s1).1.symm) (congrArg Value.bool ?_));rw[Bool.eq_iff_iff];simp[(hand_1 s1).2,JobZ,JudZ, *]
  refine run ?_;refine J.ife rfl (fun s2=>?_) (fun s2=>?_)
  ·refine run ?_;refine J.regionX [(0, .q),(1, .q),(2, .q),(3, .q),(4, .q),(5, .q),(6, .q),(7, .e),(8, .q),(9, .q),(10, .q)] mixed (by kernel_rfl) ?_;refine run ?_;refine J.fin (tup2 (congrArg _ (hand_2 s2).1.symm) (congrArg Value.bool ?_));rw[Bool.eq_iff_iff];simp[(hand_2 s2).2,JobZ,JudZ, *]
  refine run ?_;refine J.fin (tup2 (congrArg _ (hand_x s0 s1 s2).1.symm) (congrArg Value.bool (decide_eq_false (hand_x s0 s1 s2).2).symm))
 skip
 refine run ?_;refine J.ife rfl (fun s0=>?_) (fun s0=>?_)
 ·refine run ?_;refine J.fin (tup2 (congrArg _ (hand_0 s0).1.symm) (congrArg Value.bool ?_));rw[Bool.eq_iff_iff];simp[(hand_0 s0).2,JobZ,JudZ, *]
 refine run ?_;refine J.ife rfl (fun s1=>?_) (fun s1=>?_)
 ·refine run ?_;refine J.regionX [(0, .q),(1, .q),(2, .q),(3, .q),(4, .q),(5, .q),(6, .q),(7, .q),(8, .e),(9, .q),(10, .q),(11, .q)] mixed (by kernel_rfl) ?_;refine run ?_;refine J.fin (tup2 (congrArg _ (hand_1 s1).1.symm) (congrArg Value.bool ?_));rw[Bool.eq_iff_iff];simp[(hand_1 s1).2,JobZ,JudZ, *]
 refine run ?_;refine J.ife rfl (fun s2=>?_) (fun s2=>?_)
 ·refine run ?_;refine J.regionX [(0, .q),(1, .q),(2, .q),(3, .q),(4, .q),(5, .q),(6, .q),(7, .e),(8, .q),(9, .q),(10, .q)] mixed (by kernel_rfl) ?_;refine run ?_;refine J.fin (tup2 (congrArg _ (hand_2 s2).1.symm) (congrArg Value.bool ?_));rw[Bool.eq_iff_iff];simp[(hand_2 s2).2,JobZ,JudZ, *]
 refine run ?_;refine J.fin (tup2 (congrArg _ (hand_x s0 s1 s2).1.symm) (congrArg Value.bool (decide_eq_false (hand_x s0 s1 s2).2).symm))
instance:Ents prog 48:=⟨.mk func48 (by kernel_rfl) rfl⟩
theorem judZ_iff{h:HdA}:S.SameJ h.j.V ⟨0,0,S.OpV.zero,List.replicate 32 0⟩↔JudZ h:=⟨fun k=>⟨⟨k.2.2.2,k.2.2.1⟩,k.1,k.2.1⟩,fun k=>⟨k.2.1,k.2.2,k.1.2,k.1.1⟩⟩
theorem refHand{S0:Nat→Prop}(h:HdA)(w:World)(R:JdR S0 w h.j):
  Calls prog 49 #[.agg (hdC h).toArray] w (Ret w fun v _=>v= .bool (decide (HandP h))):=by
 have hid:=R.id;refine J.enter 50 func49 rfl rfl ?_;refine run ?_;refine J.box rfl rfl rfl fun b1=>?_
 refine run ?_;refine J.spe rfl rfl rfl (fun c1=>?_) (fun c1=>?_)
 ·skip
  refine run ?_;refine J.ldp rfl ?_ (hv:=hdC_jd hid.1) (hn:=jdC_len hid.1);refine run ?_;refine J.callp rfl rfl (fun w' M=>refSameJd (S1:=no) h.j ⟨0,0,⟨S.OpV.zero,none,0⟩,List.replicate 32 0,rfl⟩ w' (R.ext M.ext) (jdZ 0 0 w')) ?_;rw[show decide (S.SameJ h.j.V (JdA.V ⟨0,0,⟨S.OpV.zero,none,0⟩,List.replicate 32 0,rfl⟩))=decide (JudZ h)from decide_eq_decide.2 judZ_iff];refine run ?_;refine J.ife rfl (fun s0=>?_) (fun s0=>?_)
  ·refine run ?_;refine J.spe rfl rfl rfl (fun d1=>?_) (fun d1=>?_)
   ·refine run ?_;exact J.fin (congrArg Value.bool (decide_eq_decide.2 ⟨fun k=>(hand_0 s0).2.2 ⟨⟨c1,by omega⟩,k⟩,fun k=>((hand_0 s0).2.1 k).2⟩))
   refine run ?_;exact J.fin (congrArg Value.bool (decide_eq_false fun k=>d1 (by have:=((hand_0 s0).2.1 k).1.2;omega)).symm)
  refine run ?_;refine J.ife rfl (fun s1=>?_) (fun s1=>?_)
  ·refine run ?_;refine J.spd rfl rfl rfl (fun d2=>?_) (fun d2=>?_)
   ·refine run ?_;refine J.spd rfl rfl rfl (fun d3=>?_) (fun d3=>?_)
    ·refine run ?_;exact J.fin (congrArg Value.bool (decide_eq_decide.2 ⟨fun k=>(hand_1 s1).2.2 ⟨d2,d3,k⟩,fun k=>((hand_1 s1).2.1 k).2.2⟩))
    refine run ?_;exact J.fin (congrArg Value.bool (decide_eq_false fun k=>d3 ((hand_1 s1).2.1 k).2.1).symm)
   refine run ?_;exact J.fin (congrArg Value.bool (decide_eq_false fun k=>d2 ((hand_1 s1).2.1 k).1).symm)
  refine run ?_;refine J.ife rfl (fun s2=>?_) (fun s2=>?_)
  ·refine run ?_;refine J.spe rfl rfl rfl (fun d1=>?_) (fun d1=>?_)
   ·refine run ?_;refine J.ldp rfl ?_ (hv:=hdC_jd hid.1) (hn:=jdC_len hid.1);refine run ?_;refine J.callp rfl rfl (fun w' M=>refFinding h.j w' (R.ext M.ext)) ?_;refine run ?_;exact J.fin (congrArg Value.bool (decide_eq_decide.2 ⟨fun k=>(hand_2 s2).2.2 ⟨⟨c1,by omega⟩,k⟩,fun k=>((hand_2 s2).2.1 k).2⟩))
   refine run ?_;exact J.fin (congrArg Value.bool (decide_eq_false fun k=>d1 (by have:=((hand_2 s2).2.1 k).1.2;omega)).symm)
  refine run ?_;exact J.fin (congrArg Value.bool (decide_eq_false (hand_x s0 s1 s2).2).symm)
 skip
 refine run ?_;refine J.ldp rfl ?_ (hv:=hdC_jd hid.1) (hn:=jdC_len hid.1);refine run ?_;refine J.callp rfl rfl (fun w' M=>refSameJd (S1:=no) h.j ⟨0,0,⟨S.OpV.zero,none,0⟩,List.replicate 32 0,rfl⟩ w' (R.ext M.ext) (jdZ 0 0 w')) ?_;rw[show decide (S.SameJ h.j.V (JdA.V ⟨0,0,⟨S.OpV.zero,none,0⟩,List.replicate 32 0,rfl⟩))=decide (JudZ h)from decide_eq_decide.2 judZ_iff];refine run ?_;refine J.ife rfl (fun s0=>?_) (fun s0=>?_)
 ·refine run ?_;exact J.fin (congrArg Value.bool (decide_eq_false fun k=>c1 ((hand_0 s0).2.1 k).1.1).symm)
 refine run ?_;refine J.ife rfl (fun s1=>?_) (fun s1=>?_)
 ·refine run ?_;refine J.spd rfl rfl rfl (fun d2=>?_) (fun d2=>?_)
  ·refine run ?_;refine J.spd rfl rfl rfl (fun d3=>?_) (fun d3=>?_)
   ·refine run ?_;exact J.fin (congrArg Value.bool (decide_eq_decide.2 ⟨fun k=>(hand_1 s1).2.2 ⟨d2,d3,k⟩,fun k=>((hand_1 s1).2.1 k).2.2⟩))
   refine run ?_;exact J.fin (congrArg Value.bool (decide_eq_false fun k=>d3 ((hand_1 s1).2.1 k).2.1).symm)
  refine run ?_;exact J.fin (congrArg Value.bool (decide_eq_false fun k=>d2 ((hand_1 s1).2.1 k).1).symm)
 refine run ?_;refine J.ife rfl (fun s2=>?_) (fun s2=>?_)
 ·refine run ?_;exact J.fin (congrArg Value.bool (decide_eq_false fun k=>c1 ((hand_2 s2).2.1 k).1.1).symm)
 refine run ?_;exact J.fin (congrArg Value.bool (decide_eq_false (hand_x s0 s1 s2).2).symm)
end W
namespace W
open Go.RowKit G
theorem irow_e{k:IntKind}{a:Option Addr}{n:Nat}{xs:List Int}{S:Nat→Prop}{w:World}(h:(Ent.irow k a n xs).ok S w):IRow k S w a n xs:=h
theorem irow_i{k:IntKind}{a:Option Addr}{n:Nat}{xs:List Int}{S:Nat→Prop}{w:World}(h:IRow k S w a n xs):(Ent.irow k a n xs).ok S w:=h
theorem wrow_e{k:IntKind}{sz:Nat}{a:Option Addr}{n:Nat}{xs:List Int}{S:Nat→Prop}{w:World}(h:(Ent.wrow k sz a n xs).ok S w):WRow k sz S w a n xs:=h
theorem wrow_i{k:IntKind}{sz:Nat}{a:Option Addr}{n:Nat}{xs:List Int}{S:Nat→Prop}{w:World}(h:WRow k sz S w a n xs):(Ent.wrow k sz a n xs).ok S w:=h
theorem sep2{e1 e2:Ent}{S1 S2:Nat→Prop}{w:World}(hd:∀b,S1 b→S2 b→False)(h1:e1.ok S1 w)(h2:e2.ok S2 w):Sep [e1,e2] (fun b=>S1 b∨S2 b) w:=Sep.app (sep1 h1) (sep1 h2) (fun _ h=> .inl h) (fun _ h=> .inr h) hd
section
variable{S0:Nat→Prop}{w0:World}{L:List Ent}{X:World→Prop}
theorem J.pair{F1 F2:Ent→List Ent}(e1 e2:Ent)[R:RE L e1 F1][R2:RE (F1 .emp) e2 F2](k:J S0 w0 (F2 (.all [e1,e2])) X):J S0 w0 L X:=
 J.merge e1 e2 (.all [e1,e2]) (fun _ _ _ hd h1 h2=>all_i (sep2 hd h1 h2)) k
end
section
end
end W
namespace S
open G
structure JbV where
 (t:Int)(b:List Int)
structure HdV where
 (s jt:Int)(b:List Int)(j:JdV)
structure PlV where
 (cap:Int)(js:List JbV)(hs:List HdV)(ds:List JdV)
def JdV.zero:JdV:=⟨0,0,OpV.zero,List.replicate 32 0⟩
def HdV.zero:HdV:=⟨0,0,[],JdV.zero⟩
def JbV.zero:JbV:=⟨0,[]⟩
def PlV.zero:PlV:=⟨0,[],[],[]⟩
def jobZ(h:HdV):Prop:=h.jt=0∧h.b.length=0
def judZ(h:HdV):Prop:=NoO h.j.o h.j.id∧h.j.t=0∧h.j.v=0
def handT(h:HdV):Int:=if h.s=1 then h.jt else if h.s=2 then h.j.t else -1
def handL(h:HdV):List Int:=if h.s=1 then [h.jt]else if h.s=2 then [h.j.t]else []
def handP(h:HdV):Prop:=(h.s=0∧jobZ h∧judZ h)∨(h.s=1∧judZ h∧TickP h.jt)∨(h.s=2∧jobZ h∧FindP h.j)
theorem handL_eq{h:HdV}(hp:handP h):handL h=if 0≤handT h then [handT h]else []:=by
 unfold handL handT;rcases hp with h1|h1|h1
 ·simp[h1.1]
 ·have:=h1.2.2.1;simp[h1.1,this]
 ·have:=h1.2.2.1.1;simp[h1.1,this]
@[reducible] def PlV.dT(v:PlV):List Int:=v.ds.map JdV.t
@[reducible] def PlV.hT(v:PlV):List Int:=v.hs.map handT
@[reducible] def PlV.jT(v:PlV):List Int:=v.js.map JbV.t
def PlV.tk(v:PlV):List Int:=v.dT++v.hs.flatMap handL
def maxL:List Int→Int
 |[]=>0
 |x::l=>l.foldl max x
theorem foldl_max:∀(l:List Int) (x k:Int),l.foldl max x<k↔x<k∧∀y∈l,y<k
 |[],x,k=>by simp
 |y::l,x,k=>by
  rw[List.foldl_cons,foldl_max l];simp only[List.mem_cons,forall_eq_or_imp];constructor
  ·rintro⟨h1,h2⟩;exact⟨by omega,by omega,h2⟩
  ·rintro⟨h1,h2,h3⟩;exact⟨by omega,h3⟩
theorem maxL_lt{l:List Int}(hl:l≠[]){k:Int}:maxL l<k↔∀y∈l,y<k:=by
 cases l with
 |nil=>exact absurd rfl hl
 |cons x l=>
  unfold maxL;rw[foldl_max];simp
def C1(v:PlV):Prop:=1≤v.cap∧v.cap≤8∧(v.js.length:Int)≤v.cap∧1≤v.hs.length∧v.hs.length≤3∧v.ds.length≤60
def dn1(v:PlV)(k:Nat):Prop:=FindP (v.ds.getD k JdV.zero)∧(0<k→v.dT.getD (k - 1) 0<v.dT.getD k 0)
def C2(v:PlV):Prop:=∀k,k<v.ds.length→dn1 v k
def hd1(v:PlV)(k:Nat):Prop:=handP (v.hs.getD k HdV.zero)∧(0≤v.hT.getD k 0→¬v.hT.getD k 0∈v.dT++v.hT.take k)
def C3(v:PlV):Prop:=∀k,k<v.hs.length→hd1 v k
def lastT(v:PlV)(k:Nat):Int:=if k=0 then maxL (v.dT++v.hT)else v.jT.getD (k - 1) 0
def jb1(v:PlV)(k:Nat):Prop:=TickP (v.jT.getD k 0)∧lastT v k<v.jT.getD k 0
def C4(v:PlV):Prop:=∀k,k<v.js.length→jb1 v k
def vldP(v:PlV):Prop:=C1 v∧C2 v∧C3 v∧C4 v
noncomputable instance(v:PlV):Decidable (vldP v):=Classical.propDecidable _
noncomputable def vldE(v:PlV):Int:=if vldP v then 0 else 8
def R3(v:PlV):Prop:=∀k,k<v.hs.length→handP (v.hs.getD k HdV.zero)
def jb2(v:PlV)(k:Nat):Prop:=TickP (v.jT.getD k 0)∧(0<k→v.jT.getD (k - 1) 0<v.jT.getD k 0)
def R4(v:PlV):Prop:=∀k,k<v.js.length→jb2 v k
def tk1(v:PlV)(i:Nat):Prop:=(∀k,k<i→v.tk.getD k 0≠v.tk.getD i 0)∧(0<v.js.length→v.tk.getD i 0<v.jT.getD 0 0)
def R5(v:PlV):Prop:=∀i,i<v.tk.length→tk1 v i
theorem nodup_of{l:List Int}:l.Nodup↔∀i,i<l.length→∀k,k<i→l.getD k 0≠l.getD i 0:=by
 unfold List.Nodup;rw[List.pairwise_iff_getElem];constructor
 ·intro h i hi k hk;have:=h k i (by omega) hi hk;rw[List.getD_eq_getElem?_getD,List.getD_eq_getElem?_getD,List.getElem?_eq_getElem hi,List.getElem?_eq_getElem (by omega:k<l.length)];exact this
 ·intro h k i hk hi hlt;have:=h i hi k hlt;rw[List.getD_eq_getElem?_getD,List.getD_eq_getElem?_getD,List.getElem?_eq_getElem hi,List.getElem?_eq_getElem hk]at this;exact this
theorem nodup_rising{l:List Int}(h:∀k,k<l.length→0<k→l.getD (k - 1) 0<l.getD k 0):l.Nodup:=by
 refine nodup_of.2 fun i hi k hk=>?_
 have:∀n,k+n+1<l.length→l.getD k 0<l.getD (k+n+1) 0:=by
  intro n
  induction n with
  |zero=>exact fun h1=>h (k+1) h1 (by omega)
  |succ n ih=>
   intro h1;have h2:=ih (by omega);have h3:=h (k+n+2) h1 (by omega);exact Int.lt_trans h2 h3
 have h1:=this (i - k - 1) (by omega);rw[show k+(i - k - 1)+1=i by omega]at h1;omega
theorem nodup_snoc{l:List Int}{x:Int}:(l++[x]).Nodup↔l.Nodup∧¬x∈l:=by
 rw[List.nodup_append];simp only[List.nodup_cons,List.not_mem_nil,not_false_eq_true,List.nodup_nil,and_self,true_and,List.mem_singleton];constructor
 ·rintro⟨h1,h2⟩;exact⟨h1,fun h=>h2 x h x rfl rfl⟩
 ·rintro⟨h1,h2⟩;exact⟨h1,fun a ha b hb he=>h2 (by rw[←hb,←he];exact ha)⟩
def pos(l:List Int):List Int:=l.filter fun x=>decide (0≤x)
theorem apart_iff:∀(H D:List Int),(D.Nodup∧∀k,k<H.length→0≤H.getD k 0→¬H.getD k 0∈D++H.take k)↔(D++pos H).Nodup
 |[],D=>by simp[pos]
 |h::H,D=>by
  by_cases h0:0≤h
  ·have ih:=apart_iff H (D++[h]);rw[List.append_assoc]at ih;rw[show D++pos (h::H)=D++([h]++pos H)by simp[pos,h0],←ih,nodup_snoc];constructor
   ·rintro⟨h1,h2⟩;refine⟨⟨h1,fun hm=>h2 0 (by simp) h0 (by simpa using hm)⟩,fun k hk hp hm=>h2 (k+1) (by simpa using hk) (by simpa using hp) (by simpa using hm)⟩
   ·rintro⟨⟨h1,h3⟩,h2⟩;refine⟨h1,fun k hk hp hm=>?_⟩;cases k with
    |zero=>exact h3 (by simpa using hm)
    |succ k=>exact h2 k (by simpa using hk) (by simpa using hp) (by simpa using hm)
  ·have ih:=apart_iff H D;rw[show D++pos (h::H)=D++pos H by simp[pos,h0],←ih];constructor
   ·rintro⟨h1,h2⟩;refine⟨h1,fun k hk hp hm=>h2 (k+1) (by simpa using hk) (by simpa using hp) ?_⟩;rcases List.mem_append.1 hm with h3|h3
    ·exact List.mem_append_left _ (by simpa using h3)
    ·exact List.mem_append_right _ (by simp only[List.take_succ_cons,List.getD_cons_succ];exact List.mem_cons_of_mem _ h3)
   ·rintro⟨h1,h2⟩;refine⟨h1,fun k hk hp hm=>?_⟩;cases k with
    |zero=>exact h0 (by simpa using hp)
    |succ k=>
     refine h2 k (by simpa using hk) (by simpa using hp) ?_;simp only[List.take_succ_cons,List.getD_cons_succ]at hm hp;rcases List.mem_append.1 hm with h3|h3
     ·exact List.mem_append_left _ h3
     ·rcases List.mem_cons.1 h3 with h4|h4
      ·exact absurd (h4▸hp) h0
      ·exact List.mem_append_right _ h4
theorem tk_pos{v:PlV}(h:R3 v):v.tk=v.dT++pos v.hT:=by
 unfold PlV.tk;congr 1;have:∀l:List HdV,(∀x∈l,handP x)→l.flatMap handL=pos (l.map handT):=by
  intro l
  induction l with
  |nil=>intro _;rfl
  |cons x l ih=>
   intro hl;rw[List.flatMap_cons,ih (fun y hy=>hl y (List.mem_cons_of_mem _ hy)),handL_eq (hl x (List.mem_cons_self)),List.map_cons];unfold pos;by_cases h0:0≤handT x
   ·simp[h0]
   ·simp[h0]
 refine this _ fun x hx=>?_
 obtain⟨i,hi,rfl⟩:=List.mem_iff_getElem.1 hx;have:=h i hi;rwa[List.getD_eq_getElem?_getD,List.getElem?_eq_getElem hi]at this
theorem mem_pos{l:List Int}{x:Int}:x∈pos l↔x∈l∧0≤x:=by simp[pos]
theorem mem_getD{l:List Int}{P:Int→Prop}:(∀x∈l,P x)↔∀i,i<l.length→P (l.getD i 0):=by
 constructor
 ·intro h i hi;rw[List.getD_eq_getElem?_getD,List.getElem?_eq_getElem hi];exact h _ (List.getElem_mem hi)
 ·intro h x hx;obtain⟨i,hi,rfl⟩:=List.mem_iff_getElem.1 hx;have:=h i hi;rwa[List.getD_eq_getElem?_getD,List.getElem?_eq_getElem hi]at this
theorem vldP_iff(v:PlV):vldP v↔C1 v∧C2 v∧R3 v∧R4 v∧R5 v:=by
 have hT:∀k,k<v.hs.length→v.hT.getD k 0=handT (v.hs.getD k HdV.zero):=fun k hk=>by
  rw[List.getD_eq_getElem?_getD,List.getD_eq_getElem?_getD,List.getElem?_map,List.getElem?_eq_getElem hk];rfl
 have hDn:C2 v→v.dT.Nodup:=fun h2=>nodup_rising fun k hk h0=>(h2 k (by simpa using hk)).2 h0;have key:C1 v→C2 v→R3 v→((C3 v∧C4 v)↔(R4 v∧R5 v)):=by
  intro h1 h2 h3;have hne:v.dT++v.hT≠[]:=fun h=>by
   have h5:=h1.2.2.2.1;have h6:v.hT.length=0:=by rw[(List.append_eq_nil_iff.1 h).2];rfl
   rw[List.length_map]at h6;omega
  have e3:C3 v↔∀k,k<v.hT.length→0≤v.hT.getD k 0→¬v.hT.getD k 0∈v.dT++v.hT.take k:=by
   unfold C3 hd1;simp only[List.length_map];exact⟨fun h k hk=>(h k hk).2,fun h k hk=>⟨h3 k hk,h k hk⟩⟩
  have e4:R5 v↔v.tk.Nodup∧(0<v.js.length→∀x∈v.tk,x<v.jT.getD 0 0):=by
   unfold R5 tk1;rw[nodup_of];constructor
   ·exact fun h=>⟨fun i hi=>(h i hi).1,fun h0=>mem_getD.2 fun i hi=>(h i hi).2 h0⟩
   ·exact fun h i hi=>⟨h.1 i hi,fun h0=>mem_getD.1 (h.2 h0) i hi⟩
  have ap:=apart_iff v.hT v.dT;rw[←tk_pos h3,←e3]at ap;have e5:(∀k,k<v.js.length→TickP (v.jT.getD k 0))→0<v.js.length→(maxL (v.dT++v.hT)<v.jT.getD 0 0↔∀x∈v.tk,x<v.jT.getD 0 0):=by
   intro ht h0;have hp:=(ht 0 h0).1;rw[maxL_lt hne,tk_pos h3];constructor
   ·intro h x hx;rcases List.mem_append.1 hx with k|k
    ·exact h x (List.mem_append_left _ k)
    ·exact h x (List.mem_append_right _ (mem_pos.1 k).1)
   ·intro h x hx;rcases List.mem_append.1 hx with k|k
    ·exact h x (List.mem_append_left _ k)
    ·by_cases hx0:0≤x
     ·exact h x (List.mem_append_right _ (mem_pos.2 ⟨k,hx0⟩))
     ·omega
  constructor
  ·rintro⟨h4,h5⟩;have ht:∀k,k<v.js.length→TickP (v.jT.getD k 0):=fun k hk=>(h5 k hk).1;refine⟨fun k hk=>⟨ht k hk,fun h0=>?_⟩,e4.2 ⟨ap.1 ⟨hDn h2,h4⟩,fun h0=>(e5 ht h0).1 ?_⟩⟩
   ·have:=(h5 k hk).2;unfold lastT at this;rwa[if_neg (by omega)]at this
   ·have:=(h5 0 h0).2;unfold lastT at this;rwa[if_pos rfl]at this
  ·rintro⟨h4,h5⟩;obtain⟨h5,h6⟩:=e4.1 h5;have ht:∀k,k<v.js.length→TickP (v.jT.getD k 0):=fun k hk=>(h4 k hk).1;refine⟨(ap.2 h5).2,fun k hk=>⟨ht k hk,?_⟩⟩;unfold lastT;by_cases h0:k=0
   ·subst h0;rw[if_pos rfl];exact(e5 ht hk).2 (h6 hk)
   ·rw[if_neg h0];exact(h4 k hk).2 (by omega)
 unfold vldP;constructor
 ·rintro⟨h1,h2,h3,h4⟩;have hr:R3 v:=fun k hk=>(h3 k hk).1;exact⟨h1,h2,hr,((key h1 h2 hr).1 ⟨h3,h4⟩).1,((key h1 h2 hr).1 ⟨h3,h4⟩).2⟩
 ·rintro⟨h1,h2,h3,h4,h5⟩;exact⟨h1,h2,(key h1 h2 h3).2 ⟨h4,h5⟩⟩
theorem rise_lt{l:List Int}(h:∀k,k<l.length→0<k→l.getD (k - 1) 0<l.getD k 0){i j:Nat}(hij:i<j)(hj:j<l.length):l.getD i 0<l.getD j 0:=by
 have:∀n,i+n+1<l.length→l.getD i 0<l.getD (i+n+1) 0:=by
  intro n
  induction n with
  |zero=>exact fun h1=>h (i+1) h1 (by omega)
  |succ n ih=>
   intro h1;have h2:=ih (by omega);have h3:=h (i+n+2) h1 (by omega);exact Int.lt_trans h2 h3
 have h1:=this (j - i - 1) (by omega);rwa[show i+(j - i - 1)+1=j by omega]at h1
theorem dT_at(v:PlV){i:Nat}(hi:i<v.ds.length):v.dT.getD i 0=(v.ds.getD i JdV.zero).t:=by
 rw[List.getD_eq_getElem?_getD,List.getD_eq_getElem?_getD,List.getElem?_map,List.getElem?_eq_getElem hi];rfl
theorem C2.rise{v:PlV}(h:C2 v):∀k,k<v.dT.length→0<k→v.dT.getD (k - 1) 0<v.dT.getD k 0:=fun k hk h0=>(h k (by simpa using hk)).2 h0
theorem maxL_step{l:List Int}{i:Nat}(h1:1≤i)(hi:i<l.length):maxL (l.take (i+1))=if maxL (l.take i)<l.getD i 0 then l.getD i 0 else maxL (l.take i):=by
 cases l with
 |nil=>simp at hi
 |cons x l=>
  obtain⟨k,rfl⟩:∃k,i=k+1:=⟨i - 1,by omega⟩
  have hk:k<l.length:=by simpa using hi
  rw[List.take_succ_cons,List.take_succ_cons];unfold maxL;dsimp only;rw[List.take_add_one,List.getElem?_eq_getElem hk,Option.toList_some,List.foldl_append,List.getD_cons_succ,List.getD_eq_getElem?_getD,List.getElem?_eq_getElem hk,Option.getD_some];simp only[List.foldl_cons,List.foldl_nil];show max _ _=_;rw[Int.max_def];split<;>split<;>omega
theorem max_step(x y:Int):(if x<y then y else x)=max x y:=by
 rw[Int.max_def];split<;>split<;>omega
theorem takeT_snoc{l:List Int}{i:Nat}(hi:i<l.length):l.take i++[l.getD i 0]=l.take (i+1):=by
 rw[List.take_add_one,List.getElem?_eq_getElem hi,Option.toList_some,List.getD_eq_getElem?_getD,List.getElem?_eq_getElem hi,Option.getD_some]
theorem not_mem_getD{l:List Int}{x:Int}:(∀i,i<l.length→l.getD i 0≠x)↔¬x∈l:=by
 have h:=mem_getD (l:=l) (P:=fun y=>y≠x);rw[←h];exact⟨fun k hx=>k x hx rfl,fun k y hy he=>k (he▸hy)⟩
def cmT(t n:Int):Int:=if t<n then -1 else if t>n then 1 else 0
theorem cmT_0{t n:Int}:cmT t n=0↔t=n:=by unfold cmT;split<;>(try split)<;>omega
theorem cmT_lt{t n:Int}:cmT t n<0↔t<n:=by unfold cmT;split<;>(try split)<;>omega
def cT(v:PlV)(n:Int)(i:Nat):Int:=cmT (v.ds.getD i JdV.zero).t n
def spT(v:PlV)(n:Int):Nat:=spotC v.ds.length (cT v n)
def hasT(v:PlV)(n:Int):Prop:=∃d∈v.ds,d.t=n
noncomputable instance(v:PlV)(n:Int):Decidable (hasT v n):=Classical.propDecidable _
theorem mono_T{v:PlV}(h:C2 v)(n:Int):MonoC v.ds.length (cT v n):=fun i j hij hj hc=>by
 unfold cT at hc⊢;rw[cmT_lt]at hc⊢;have:=rise_lt h.rise hij (by simpa using hj);rw[dT_at v (by omega),dT_at v hj]at this;omega
theorem spT_le(v:PlV)(n:Int):spT v n≤v.ds.length:=spotC_le _ _
theorem spT_lo{v:PlV}{n:Int}{i:Nat}(h:i<spT v n):(v.ds.getD i JdV.zero).t<n:=cmT_lt.1 (spotC_lt (c:=cT v n) h)
theorem hasT_sp{v:PlV}(h:C2 v){n:Int}:hasT v n↔spT v n<v.ds.length∧(v.ds.getD (spT v n) JdV.zero).t=n:=by
 constructor
 ·rintro⟨x,hx,rfl⟩;obtain⟨i,hi,rfl⟩:=List.mem_iff_getElem.1 hx;have e:(v.ds.getD i JdV.zero).t=v.ds[i].t:=by rw[List.getD_eq_getElem?_getD,List.getElem?_eq_getElem hi];rfl
  have h1 : spT v v.ds[i].t = i := spotC_eq (by omega) (fun j hj => by
   unfold cT
   rw [cmT_lt, ← e]
   have := rise_lt h.rise hj (by simpa using hi)
   rwa [dT_at v (by omega), dT_at v hi] at this) fun _ => by
   unfold cT;rw[e,cmT_0.2 rfl];exact Int.le_refl _
  rw[h1];exact⟨hi,e⟩
 ·rintro⟨h1,h2⟩;refine⟨v.ds[spT v n],List.getElem_mem h1,?_⟩;rw[List.getD_eq_getElem?_getD,List.getElem?_eq_getElem h1]at h2;exact h2
theorem first_sp{v:PlV}(h:C2 v){n:Int}{i:Nat}(hi:i<v.ds.length)(he:(v.ds.getD i JdV.zero).t=n):hasT v n∧spT v n=i:=by
 have hh:hasT v n:=⟨v.ds[i],List.getElem_mem hi,by rw[List.getD_eq_getElem?_getD,List.getElem?_eq_getElem hi]at he;exact he⟩
 obtain⟨h1,h2⟩:=(hasT_sp h).1 hh;refine⟨hh,?_⟩;rcases Nat.lt_trichotomy (spT v n) i with k|k|k
 ·have:=rise_lt h.rise k (by simpa using hi);rw[dT_at v h1,dT_at v hi]at this;omega
 ·exact k
 ·have:=spT_lo k;omega
noncomputable def takeE(v:PlV)(n:Int):Int:=if ¬vldP v then 8 else if hasT v n then 0 else 38
def cutD(v:PlV)(i:Nat):PlV:= {v with ds:=v.ds.take i++v.ds.drop (i+1)}
noncomputable def takeV(v:PlV)(n:Int):PlV:=if takeE v n=0 then cutD v (spT v n)else PlV.zero
noncomputable def takeJ(v:PlV)(n:Int):JdV:=if takeE v n=0 then v.ds.getD (spT v n) JdV.zero else JdV.zero
theorem takeE_8{v:PlV}{n:Int}(h:¬vldP v):takeE v n=8:=if_pos h
theorem takeE_38{v:PlV}{n:Int}(h:vldP v)(h2:¬hasT v n):takeE v n=38:=by unfold takeE;rw[if_neg (not_not_intro h),if_neg h2]
theorem takeE_0{v:PlV}{n:Int}(h:vldP v)(h2:hasT v n):takeE v n=0:=by unfold takeE;rw[if_neg (not_not_intro h),if_pos h2]
theorem take_no{v:PlV}{n:Int}(h:takeE v n≠0):takeV v n=PlV.zero∧takeJ v n=JdV.zero:=⟨if_neg h,if_neg h⟩
theorem take_yes{v:PlV}{n:Int}(h:takeE v n=0):takeV v n=cutD v (spT v n)∧takeJ v n=v.ds.getD (spT v n) JdV.zero:=⟨if_pos h,if_pos h⟩
def overT(v:PlV)(t:Int):Prop:=∃x∈v.tk++v.jT,t≤x
noncomputable instance(v:PlV)(t:Int):Decidable (overT v t):=Classical.propDecidable _
def grtT(v:PlV):Int:=(v.jT++v.hT++v.dT).foldl max (-1)
theorem grt_iff{v:PlV}(h:vldP v){t:Int}(ht:TickP t):t≤grtT v↔overT v t:=by
 have h3:=((vldP_iff v).1 h).2.2.1;have h0:=ht.1;have e:¬t≤grtT v↔¬overT v t:=by
  unfold overT grtT;rw[Int.not_le,foldl_max,tk_pos h3];constructor
  ·rintro⟨h1,h2⟩ ⟨x,hx,hl⟩;have:x<t:=by
    refine h2 x ?_;rcases List.mem_append.1 hx with k|k
    ·rcases List.mem_append.1 k with k|k
     ·exact List.mem_append_right _ k
     ·exact List.mem_append_left _ (List.mem_append_right _ (mem_pos.1 k).1)
    ·exact List.mem_append_left _ (List.mem_append_left _ k)
   omega
  ·intro h1;refine⟨by omega,fun x hx=>?_⟩;apply Classical.byContradiction;intro hn;refine h1 ⟨x,?_,by omega⟩;rcases List.mem_append.1 hx with k|k
   ·rcases List.mem_append.1 k with k|k
    ·exact List.mem_append_right _ k
    ·exact List.mem_append_left _ (List.mem_append_right _ (mem_pos.2 ⟨k,by omega⟩))
   ·exact List.mem_append_left _ (List.mem_append_left _ k)
 exact Decidable.not_iff_not.1 e
noncomputable def putE(v:PlV)(t:Int):Int:=if ¬vldP v then 8 else if ¬TickP t then 2 else if overT v t then 32 else if(v.js.length:Int)=v.cap then 38 else 0
def addJ(v:PlV)(t:Int)(b:List Int):PlV:= {v with js:=v.js++[⟨t,b⟩]}
noncomputable def putV(v:PlV)(t:Int)(b:List Int):PlV:=if putE v t=0 then addJ v t b else PlV.zero
section
variable{v:PlV}{t:Int}{b:List Int}
theorem putE_8(h:¬vldP v):putE v t=8:=if_pos h
theorem putE_2(h:vldP v)(h2:¬TickP t):putE v t=2:=by unfold putE;rw[if_neg (not_not_intro h),if_pos h2]
theorem putE_32(h:vldP v)(h2:TickP t)(h3:overT v t):putE v t=32:=by unfold putE;rw[if_neg (not_not_intro h),if_neg (not_not_intro h2),if_pos h3]
theorem putE_38(h:vldP v)(h2:TickP t)(h3:¬overT v t)(h4:(v.js.length:Int)=v.cap):putE v t=38:=by unfold putE;rw[if_neg (not_not_intro h),if_neg (not_not_intro h2),if_neg h3,if_pos h4]
theorem putE_0(h:vldP v)(h2:TickP t)(h3:¬overT v t)(h4:¬(v.js.length:Int)=v.cap):putE v t=0:=by unfold putE;rw[if_neg (not_not_intro h),if_neg (not_not_intro h2),if_neg h3,if_neg h4]
theorem put_no(h:putE v t≠0):putV v t b=PlV.zero:=if_neg h
theorem put_yes(h:putE v t=0):putV v t b=addJ v t b:=if_pos h
end
noncomputable def newE(n k:Int):Int:=if n<1∨n>8∨k<1∨k>3 then 2 else 0
noncomputable def newV(n k:Int):PlV:=if newE n k=0 then⟨n,[],List.replicate k.toNat HdV.zero,[]⟩else PlV.zero
theorem vldE_8{v:PlV}(h:¬vldP v):vldE v=8:=if_neg h
theorem vldE_0{v:PlV}(h:vldP v):vldE v=0:=if_pos h
theorem vldE_ok{v:PlV}:vldE v=0↔vldP v:=by unfold vldE;split<;>simp_all
end S
namespace W
open Go.RowKit G
set_option maxRecDepth 20000
set_option maxHeartbeats 8000000
attribute [local irreducible] RS RX RY Code.wp bodyPost J Ent.blk Ent.irow Ent.iown Ent.wrow Ent.wown Ent.grow Ent.gown Ent.all Ent.emp
structure JbA where
 (t:Int)(a:Option Addr)(n c:Nat)(bs:List Int)
@[reducible] def jbC(j:JbA):List Value:=[.int .i64 j.t, .slice j.a j.n j.c]
@[reducible] def JbA.V(j:JbA):S.JbV:=⟨j.t,j.bs⟩
@[reducible] def HdA.V(h:HdA):S.HdV:=⟨h.s,h.jt,h.bs,h.j.V⟩
def JdA.zero:JdA:=⟨0,0,⟨S.OpV.zero,none,0⟩,List.replicate 32 0,rfl⟩
def HdA.zero:HdA:=⟨0,0,none,0,0,[],JdA.zero⟩
structure PlA where
 (cap:Int)(ja:Option Addr)(jn jc:Nat)(js:List JbA)(ha:Option Addr)(hn hc:Nat)(hs:List HdA)(da:Option Addr)(dn dc:Nat)(ds:List JdA)
@[reducible] def plC(p:PlA):List Value:=[.int .i64 p.cap, .slice p.ja p.jn p.jc, .slice p.ha p.hn p.hc, .slice p.da p.dn p.dc]
def PlA.V(p:PlA):S.PlV:=⟨p.cap,p.js.map JbA.V,p.hs.map HdA.V,p.ds.map JdA.V⟩
def PlA.zero:PlA:=⟨0,none,0,0,[],none,0,0,[],none,0,0,[]⟩
theorem jbC_len(j:JbA):(jbC j).length=2:=rfl
theorem hdC_len'(h:HdA):(hdC h).length=48:=hdC_len h.j.h
theorem jdC_len'(d:JdA):(jdC d).length=45:=jdC_len d.h
theorem jbC_one(j:JbA):∀u∈jbC j,u.oneCell'=true:=by
 intro u hu;simp only[jbC,List.mem_cons,List.not_mem_nil,or_false]at hu;rcases hu with rfl|rfl<;>rfl
theorem jdC_one(d:JdA):∀u∈jdC d,u.oneCell'=true:=by
 intro u hu;simp only[jdC,List.mem_cons,List.mem_append]at hu;rcases hu with rfl|rfl|hu|hu
 ·rfl
 ·rfl
 ·exact opC_one d.o u (by simpa using hu)
 exact ints_one _ _ u hu
theorem hdC_one(h:HdA):∀u∈hdC h,u.oneCell'=true:=by
 intro u hu;rcases List.mem_cons.1 hu with rfl|hu
 ·rfl
 rcases List.mem_cons.1 hu with rfl|hu
 ·rfl
 rcases List.mem_cons.1 hu with rfl|hu
 ·rfl
 exact jdC_one h.j u hu
theorem jdC_cells(d:JdA):(jdC d).all cellB=true:=by
 show((.int .i64 d.t:: .int .u8 d.v::(opC d.o++ints .u8 d.id):List Value)).all cellB=true;rw[List.all_cons,List.all_cons,List.all_append,ints_cellB];rfl
theorem hdC_cells(h:HdA):(hdC h).all cellB=true:=by
 show((.int .u8 h.s:: .int .i64 h.jt:: .slice h.ba h.bn h.bc::jdC h.j:List Value)).all cellB=true;rw[List.all_cons,List.all_cons,List.all_cons,jdC_cells];rfl
instance(j:JbA):LenC (jbC j) 2:=⟨rfl,rfl⟩
instance(d:JdA):LenC (jdC d) 45:=⟨jdC_len' d,jdC_cells d⟩
instance(h:HdA):LenC (hdC h) 48:=⟨hdC_len' h,hdC_cells h⟩
structure JbK(j:JbA):Prop where
 cap:j.n≤j.c
 n:j.n≤600
structure JdK(d:JdA):Prop where
 ok:d.o.o.ok
 cap:d.o.o.n≤d.o.pc
 id:Arr .u8 32 d.id
structure HdK(h:HdA):Prop where
 j:JdK h.j
 cap:h.bn≤h.bc
 n:h.bn≤600
structure JbR(S0:Nat→Prop)(w:World)(j:JbA):Prop where
 k:JbK j
 row:IRow .u8 S0 w j.a j.n j.bs
structure HdR(S0:Nat→Prop)(w:World)(h:HdA):Prop where
 k:HdK h
 j:JdR S0 w h.j
 row:IRow .u8 S0 w h.ba h.bn h.bs
theorem JbR.ext{S0:Nat→Prop}{w w':World}{j:JbA}(h:JbR S0 w j)(x:Ext w w'):JbR S0 w' j:=⟨h.k,h.row.ext x⟩
theorem HdR.ext{S0:Nat→Prop}{w w':World}{j:HdA}(h:HdR S0 w j)(x:Ext w w'):HdR S0 w' j:=⟨h.k,h.j.ext x,h.row.ext x⟩
structure PlR(S0:Nat→Prop)(w:World)(p:PlA):Prop where
 jr:GRow jbC 2 S0 w p.ja p.jn p.js
 hr:GRow hdC 48 S0 w p.ha p.hn p.hs
 dr:GRow jdC 45 S0 w p.da p.dn p.ds
 ji:∀j∈p.js,JbR S0 w j
 hi:∀h∈p.hs,HdR S0 w h
 di:∀d∈p.ds,JdR S0 w d
 cap:p.jn≤p.jc∧p.hn≤p.hc∧p.dn≤p.dc∧p.jn≤100∧p.hn≤100∧p.dn≤200
section
variable{S0:Nat→Prop}{w w':World}{p:PlA}
theorem PlR.ext(h:PlR S0 w p)(x:Ext w w'):PlR S0 w' p:=⟨h.jr.ext x,h.hr.ext x,h.dr.ext x,fun j hj=>(h.ji j hj).ext x,fun j hj=>(h.hi j hj).ext x,fun j hj=>(h.di j hj).ext x,h.cap⟩
theorem PlR.j(h:PlR S0 w p){i:Nat}{j:JbA}(hj:p.js[i]? =some j):JbR S0 w j:=h.ji j (List.mem_of_getElem? hj)
theorem PlR.h(h:PlR S0 w p){i:Nat}{j:HdA}(hj:p.hs[i]? =some j):HdR S0 w j:=h.hi j (List.mem_of_getElem? hj)
theorem PlR.d(h:PlR S0 w p){i:Nat}{j:JdA}(hj:p.ds[i]? =some j):JdR S0 w j:=h.di j (List.mem_of_getElem? hj)
theorem PlR.jl(h:PlR S0 w p):p.V.js.length=p.jn:=(List.length_map _).trans h.jr.len
theorem PlR.hl(h:PlR S0 w p):p.V.hs.length=p.hn:=(List.length_map _).trans h.hr.len
theorem PlR.dl(h:PlR S0 w p):p.V.ds.length=p.dn:=(List.length_map _).trans h.dr.len
end
section
variable{p:PlA}{i:Nat}
theorem PlA.jAt{j:JbA}(hj:p.js[i]? =some j):p.V.js.getD i S.JbV.zero=j.V:=by
 unfold PlA.V;rw[List.getD_eq_getElem?_getD,List.getElem?_map,hj];rfl
theorem PlA.hAt{j:HdA}(hj:p.hs[i]? =some j):p.V.hs.getD i S.HdV.zero=j.V:=by
 unfold PlA.V;rw[List.getD_eq_getElem?_getD,List.getElem?_map,hj];rfl
theorem PlA.dAt{j:JdA}(hj:p.ds[i]? =some j):p.V.ds.getD i S.JdV.zero=j.V:=by
 unfold PlA.V;rw[List.getD_eq_getElem?_getD,List.getElem?_map,hj];rfl
theorem PlA.jtAt{j:JbA}(hj:p.js[i]? =some j):p.V.jT.getD i 0=j.t:=by
 unfold PlA.V S.PlV.jT;rw[List.getD_eq_getElem?_getD,List.getElem?_map,List.getElem?_map,hj];rfl
theorem PlA.htAt{j:HdA}(hj:p.hs[i]? =some j):p.V.hT.getD i 0=S.handT j.V:=by
 unfold PlA.V S.PlV.hT;rw[List.getD_eq_getElem?_getD,List.getElem?_map,List.getElem?_map,hj];rfl
theorem PlA.dtAt{j:JdA}(hj:p.ds[i]? =some j):p.V.dT.getD i 0=j.t:=by
 unfold PlA.V S.PlV.dT;rw[List.getD_eq_getElem?_getD,List.getElem?_map,List.getElem?_map,hj];rfl
end
theorem handP_V{h:HdA}(hl:h.bs.length=h.bn):HandP h↔S.handP h.V:=by
 unfold HandP S.handP JobZ JudZ S.jobZ S.judZ HdA.V;rw[hl]
def jbE(j:JbA):Ent:= .irow .u8 j.a j.n j.bs
def jdE(d:JdA):Ent:= .wrow .u8 32 d.o.pa d.o.o.n d.o.o.ids
def hdE(h:HdA):Ent:= .all [.irow .u8 h.ba h.bn h.bs, .wrow .u8 32 h.j.o.pa h.j.o.o.n h.j.o.o.ids]
@[reducible] def plE(p:PlA):List Ent:=[.gown jbC 2 65 p.ja p.jn p.jc p.js, .gown hdC 48 67 p.ha p.hn p.hc p.hs, .gown jdC 45 61 p.da p.dn p.dc p.ds, .all (p.js.map jbE), .all (p.hs.map hdE), .all (p.ds.map jdE)]
structure PlP(v:S.PlV)(p:PlA):Prop where
 V:p.V=v
 j:∀j∈p.js,JbK j
 h:∀h∈p.hs,HdK h
 d:∀d∈p.ds,JdK d
 n:p.jn≤100∧p.hn≤100∧p.dn≤200
theorem PlP.zero:PlP S.PlV.zero PlA.zero:=⟨rfl,fun _ h=>(by cases h),fun _ h=>(by cases h),fun _ h=>(by cases h),by decide⟩
theorem jdR_e{d:JdA}{S:Nat→Prop}{w:World}(k:JdK d)(h:(jdE d).ok S w):JdR S w d:=⟨⟨k.ok,wrow_e h,k.cap⟩,k.id⟩
theorem jbR_e{j:JbA}{S:Nat→Prop}{w:World}(k:JbK j)(h:(jbE j).ok S w):JbR S w j:=⟨k,irow_e h⟩
theorem hdR_e{d:HdA}{S:Nat→Prop}{w:World}(k:HdK d)(h:(hdE d).ok S w):HdR S w d:=by
 obtain⟨A,B,h1,h2,_,h4,C,D,h6,h7,_,h8,_⟩:=all_e h;exact⟨k,⟨⟨k.j.ok,(wrow_e h8).weaken fun b _ hb=>h2 b (h6 b hb),k.j.cap⟩,k.j.id⟩,(irow_e h4).weaken fun b _ hb=>h1 b hb⟩
theorem JdR.weak{S T:Nat→Prop}{w:World}{d:JdA}(h:JdR S w d)(k:∀b,S b→T b):JdR T w d:=⟨⟨h.o.ok,h.o.row.weaken fun b _ hb=>k b hb,h.o.cap⟩,h.id⟩
theorem HdR.weak{S T:Nat→Prop}{w:World}{d:HdA}(h:HdR S w d)(k:∀b,S b→T b):HdR T w d:=⟨h.k,h.j.weak k,h.row.weaken fun b _ hb=>k b hb⟩
theorem JbR.weak{S T:Nat→Prop}{w:World}{d:JbA}(h:JbR S w d)(k:∀b,S b→T b):JbR T w d:=⟨h.k,h.row.weaken fun b _ hb=>k b hb⟩
theorem PlR.own{S0:Nat→Prop}{w0:World}{L:List Ent}{p:PlA}{v:S.PlV}{F1:Option Addr→Nat→Nat→List JbA→List Ent}{F2:Option Addr→Nat→Nat→List HdA→List Ent}{F3:Option Addr→Nat→Nat→List JdA→List Ent}{F4 F5 F6:Ent→List Ent}
  [R1:GO L p.ja jbC 2 65 p.jn p.jc p.js F1][R2:GO L p.ha hdC 48 67 p.hn p.hc p.hs F2][R3:GO L p.da jdC 45 61 p.dn p.dc p.ds F3][R4:RE L (.all (p.js.map jbE)) F4][R5:RE L (.all (p.hs.map hdE)) F5][R6:RE L (.all (p.ds.map jdE)) F6](hp:PlP v p)(w:World)(M:Mem S0 w0 L w):PlR (fun _=>True) w p:=by
 obtain⟨A,_,a⟩:=M.get (R1.h p.ja p.jn p.jc p.js).same;obtain⟨B,_,b⟩:=M.get (R2.h p.ha p.hn p.hc p.hs).same;obtain⟨C,_,c⟩:=M.get (R3.h p.da p.dn p.dc p.ds).same;obtain⟨D,_,d⟩:=M.get (R4.h (.all (p.js.map jbE))).same;obtain⟨E,_,e⟩:=M.get (R5.h (.all (p.hs.map hdE))).same;obtain⟨F,_,f⟩:=M.get (R6.h (.all (p.ds.map jdE))).same;have a:=(gown_e a).1;have b:=(gown_e b).1;have c:=(gown_e c).1;refine⟨a.row.weaken fun _ _ _=>trivial,b.row.weaken fun _ _ _=>trivial,c.row.weaken fun _ _ _=>trivial,fun j hj=>?_,fun j hj=>?_,fun j hj=>?_,a.capn,b.capn,c.capn,hp.n⟩
 ·obtain⟨S',_,k⟩:=sep_mem (List.mem_map.2 ⟨j,hj,rfl⟩) (all_e d);exact(jbR_e (hp.j j hj) k).weak fun _ _=>trivial
 ·obtain⟨S',_,k⟩:=sep_mem (List.mem_map.2 ⟨j,hj,rfl⟩) (all_e e);exact(hdR_e (hp.h j hj) k).weak fun _ _=>trivial
 obtain⟨S',_,k⟩:=sep_mem (List.mem_map.2 ⟨j,hj,rfl⟩) (all_e f);exact(jdR_e (hp.d j hj) k).weak fun _ _=>trivial
end W
namespace L
open Go Go.Proofs.YtfoaecjggdaieaaGreatDoor G W
open Go.ChangeShapes Go.WideShapes Go.ChangeAt Go.RowKit
set_option maxRecDepth 100000
section
variable{H:Type}{enc:TypeId×Value→H}{P:Program}{w:World}{base:Nat}{sp:Nat→Bool}{held:Bool}{fuel:Nat}{cs:List Value}{x:DataW H×List MemPlace}{t:TypeId}
theorem grow_in{α:Type}{e sz:Nat}(f:α→List Value)(Q:α→Prop)(d:α)(hf:∀x,(f x).length=sz)(ht:P.underlying t=some (.slice e))(hes:P.cellsOf e=sz)(hz:0<sz)
    (h1:∀m ds y,DataW.trod enc P w base sp held m e ds=some y→∃z,ds=f z∧Q z)(h:DataW.trod enc P w base sp held fuel t cs=some x):
    ∃a n c zs,cs=[.slice a n c]∧n≤c∧GRow f sz (fun _=>True) w a n zs∧∀z∈zs,Q z:=by
  rcases DataW.trod_slice ht h with⟨h2,_⟩|⟨a,len,cap,elems,rest,m,_,h2,_,_,hlc,_,hel,he,_⟩
  · exact⟨none,0,0,[],h2,Nat.le_refl _, .nil hf,fun z hz=>by cases hz⟩
  · refine⟨some a,len,cap,?_⟩
    by_cases h0:len=0
    · subst h0
      exact⟨[],h2,hlc, .nil hf,fun z hz=>by cases hz⟩
    · have one:∀i,i<len→∃z,Q z∧∀j,j<sz→w.cell? ((a.add (i*sz)).add j)=(f z)[j]? :=by
        intro i hi;have h3:=he i hi;rw[List.getElem?_eq_getElem (by omega),hes]at h3;cases hc:w.cells? base (a.add (i*sz)) sz with
        |none=>rw[hc]at h3;cases h3
        |some ds=>
          rw[hc,Option.bind_some]at h3;obtain⟨z,h4,h5⟩:=h1 _ _ _ h3;obtain⟨h6,h7⟩:=cells_in hc;exact⟨z,h5,fun j hj=>by rw[h7 j hj,h4]⟩
      obtain⟨b0,o,spot⟩:=a;obtain rfl:spot=none:=by
        obtain⟨z,_,h3⟩:=one 0 (by omega);have h4:=h3 0 hz;rw[List.getElem?_eq_getElem (by rw[hf];exact hz)]at h4;have:=World.cell?_spot h4;simpa [Addr.add]using this
      obtain ⟨zs, h3, h4⟩ := list_of d (fun i z => Q z ∧ ∀ j, j < sz → w.cell? ⟨b0, o + (i * sz + j), none⟩ = (f z)[j]?) len (fun i hi => by
        obtain ⟨z, h5, h6⟩ := one i hi
        exact ⟨z, h5, fun j hj => by have := h6 j hj; rw [add_mk, add_mk, Nat.add_assoc] at this; exact this⟩)
      refine⟨zs,h2,hlc,⟨.inr ⟨b0,o,rfl,trivial,fun j hj=>?_⟩,h3,hf⟩,fun z hz=>?_⟩
      · rw[flat_len f sz hf,h3]at hj
        have hi:j / sz<len:=Nat.div_lt_of_lt_mul hj;have hm:=Nat.mod_lt j hz;have h5:=(h4 _ hi).2 _ hm;rw[Nat.mul_comm (j / sz),Nat.div_add_mod]at h5;have hg:=flat_get f sz hf d zs (j / sz) (by omega);have e2:=congrArg (fun t=>t[j % sz]?) hg;simp only[List.getElem?_take,if_pos hm,List.getElem?_drop,Nat.div_add_mod]at e2;rw[h5,←e2,List.getD_eq_getElem?_getD,List.getElem?_eq_getElem (by rw[flat_len f sz hf,h3];exact hj)];rfl
      · obtain⟨j,hj,rfl⟩:=List.getElem_of_mem hz
        have:=(h4 j (by omega)).1;rw[List.getD_eq_getElem?_getD,List.getElem?_eq_getElem hj]at this;exact this
end
section
end
theorem z_int:prog.cellsOf 3=1:=by kernel_rfl
section
end
section
variable{H:Type}{enc:TypeId×Value→H}{w:World}{base:Nat}{sp:Nat→Bool}{held:Bool}{fuel:Nat}{cs:List Value}{x:DataW H×List MemPlace}
theorem intsS_in(h:DataW.trod enc prog w base sp held fuel 27 cs=some x):∃a n c zs,cs=[.slice a n c]∧n≤c∧GRow inC 1 (fun _=>True) w a n zs:=by
  obtain ⟨a, n, c, zs, h1, h2, h3, _⟩ := grow_in inC (fun _ => True) 0 (fun _ => rfl) underlying27 z_int (by decide) (fun m ds y hd => by
    obtain ⟨q, h1, _⟩ := int_in underlying3 hd
    exact ⟨q, h1, trivial⟩) h
  exact⟨a,n,c,zs,h1,h2,h3⟩
end
end L
end Go.Proofs.YtfoaecjggdaieaaGreatDoor
