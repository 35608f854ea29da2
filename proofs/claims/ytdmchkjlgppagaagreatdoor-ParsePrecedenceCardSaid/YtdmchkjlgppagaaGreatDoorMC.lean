/- Part 3 of a proof of ParsePrecedence (for all texts p, q): what it rests on. -/
import Derived.Test.YtdmchkjlgppagaaGreatDoorMB
import Derived.Test.YtdmchkjlgppagaaGreatDoorProg
set_option linter.all false
set_option maxRecDepth 100000
set_option maxHeartbeats 8000000
namespace Go.Ez
theorem tJ {A X:Prop}{t:Tg X}(h:A):bY A X t=X:=propext ⟨fun w=>w.2,fun w=>⟨h,w⟩⟩
theorem zE {p a b:Prop}(e:p->a=b:=by intro f;(simp -dsimp (disch:=first | assumption | omega) only [go_sem,Nat.reduceLT,Nat.reduceBEq,Nat.reduceAdd,Nat.reduceSub,Nat.reduceLeDiff,Nat.reduceEqDiff,↓reduceIte,beq_true,beq_false,decide_eq_true,decide_eq_false,not_false_eq_true,Nat.zero_add,f])<;>exact rfl):p->a=b:=e
theorem zz {a b:Prop}(h:b)(e:a=b:=by(simp -dsimp (disch:=first | assumption | omega) only [go_sem,Nat.reduceLT,Nat.reduceBEq,Nat.reduceAdd,Nat.reduceSub,Nat.reduceLeDiff,Nat.reduceEqDiff,↓reduceIte,beq_true,beq_false,decide_eq_true,decide_eq_false,not_false_eq_true,Nat.zero_add])<;>exact rfl):a:=e.mpr h
theorem zc {a:Prop}(e:a=True:=by(simp -dsimp (disch:=first | assumption | omega) only [go_sem,Nat.reduceLT,Nat.reduceBEq,Nat.reduceAdd,Nat.reduceSub,Nat.reduceLeDiff,Nat.reduceEqDiff,↓reduceIte,beq_true,beq_false,decide_eq_true,decide_eq_false,not_false_eq_true,Nat.zero_add])<;>exact rfl):a:=of_eq_true e
theorem z1 {p1 a b:Prop}(f1:p1)(h:b)(e:p1->a=b:=by exact zE):a:=(e f1).mpr h
theorem y1 {p1 a:Prop}(f1:p1)(e:p1->a=True:=by exact zE):a:=of_eq_true (e f1)
theorem z2 {p1 p2 a b:Prop}(f1:p1)(f2:p2)(h:b)(e:p1/\p2->a=b:=by exact zE):a:=(e ⟨f1,f2⟩).mpr h
theorem y2 {p1 p2 a:Prop}(f1:p1)(f2:p2)(e:p1/\p2->a=True:=by exact zE):a:=of_eq_true (e ⟨f1,f2⟩)
theorem z3 {p1 p2 p3 a b:Prop}(f1:p1)(f2:p2)(f3:p3)(h:b)(e:p1/\p2/\p3->a=b:=by exact zE):a:=(e ⟨f1,f2,f3⟩).mpr h
theorem y3 {p1 p2 p3 a:Prop}(f1:p1)(f2:p2)(f3:p3)(e:p1/\p2/\p3->a=True:=by exact zE):a:=of_eq_true (e ⟨f1,f2,f3⟩)
theorem z4 {p1 p2 p3 p4 a b:Prop}(f1:p1)(f2:p2)(f3:p3)(f4:p4)(h:b)(e:p1/\p2/\p3/\p4->a=b:=by exact zE):a:=(e ⟨f1,f2,f3,f4⟩).mpr h
theorem y4 {p1 p2 p3 p4 a:Prop}(f1:p1)(f2:p2)(f3:p3)(f4:p4)(e:p1/\p2/\p3/\p4->a=True:=by exact zE):a:=of_eq_true (e ⟨f1,f2,f3,f4⟩)
theorem z5 {p1 p2 p3 p4 p5 a b:Prop}(f1:p1)(f2:p2)(f3:p3)(f4:p4)(f5:p5)(h:b)(e:p1/\p2/\p3/\p4/\p5->a=b:=by exact zE):a:=(e ⟨f1,f2,f3,f4,f5⟩).mpr h
theorem y5 {p1 p2 p3 p4 p5 a:Prop}(f1:p1)(f2:p2)(f3:p3)(f4:p4)(f5:p5)(e:p1/\p2/\p3/\p4/\p5->a=True:=by exact zE):a:=of_eq_true (e ⟨f1,f2,f3,f4,f5⟩)
theorem z6 {p1 p2 p3 p4 p5 p6 a b:Prop}(f1:p1)(f2:p2)(f3:p3)(f4:p4)(f5:p5)(f6:p6)(h:b)(e:p1/\p2/\p3/\p4/\p5/\p6->a=b:=by exact zE):a:=(e ⟨f1,f2,f3,f4,f5,f6⟩).mpr h
theorem y6 {p1 p2 p3 p4 p5 p6 a:Prop}(f1:p1)(f2:p2)(f3:p3)(f4:p4)(f5:p5)(f6:p6)(e:p1/\p2/\p3/\p4/\p5/\p6->a=True:=by exact zE):a:=of_eq_true (e ⟨f1,f2,f3,f4,f5,f6⟩)
theorem z7 {p1 p2 p3 p4 p5 p6 p7 a b:Prop}(f1:p1)(f2:p2)(f3:p3)(f4:p4)(f5:p5)(f6:p6)(f7:p7)(h:b)(e:p1/\p2/\p3/\p4/\p5/\p6/\p7->a=b:=by exact zE):a:=(e ⟨f1,f2,f3,f4,f5,f6,f7⟩).mpr h
theorem z8 {p1 p2 p3 p4 p5 p6 p7 p8 a b:Prop}(f1:p1)(f2:p2)(f3:p3)(f4:p4)(f5:p5)(f6:p6)(f7:p7)(f8:p8)(h:b)(e:p1/\p2/\p3/\p4/\p5/\p6/\p7/\p8->a=b:=by exact zE):a:=(e ⟨f1,f2,f3,f4,f5,f6,f7,f8⟩).mpr h
theorem y8 {p1 p2 p3 p4 p5 p6 p7 p8 a:Prop}(f1:p1)(f2:p2)(f3:p3)(f4:p4)(f5:p5)(f6:p6)(f7:p7)(f8:p8)(e:p1/\p2/\p3/\p4/\p5/\p6/\p7/\p8->a=True:=by exact zE):a:=of_eq_true (e ⟨f1,f2,f3,f4,f5,f6,f7,f8⟩)
theorem z9 {p1 p2 p3 p4 p5 p6 p7 p8 p9 a b:Prop}(f1:p1)(f2:p2)(f3:p3)(f4:p4)(f5:p5)(f6:p6)(f7:p7)(f8:p8)(f9:p9)(h:b)(e:p1/\p2/\p3/\p4/\p5/\p6/\p7/\p8/\p9->a=b:=by exact zE):a:=(e ⟨f1,f2,f3,f4,f5,f6,f7,f8,f9⟩).mpr h
theorem Pe {p1 p2 p3 p4 p5 p6 p7 p8 p9 p10 a b:Prop}(f1:p1)(f2:p2)(f3:p3)(f4:p4)(f5:p5)(f6:p6)(f7:p7)(f8:p8)(f9:p9)(oU:p10)(h:b)(e:p1/\p2/\p3/\p4/\p5/\p6/\p7/\p8/\p9/\p10->a=b:=by exact zE):a:=(e ⟨f1,f2,f3,f4,f5,f6,f7,f8,f9,oU⟩).mpr h
theorem z11 {p1 p2 p3 p4 p5 p6 p7 p8 p9 p10 p11 a b:Prop}(f1:p1)(f2:p2)(f3:p3)(f4:p4)(f5:p5)(f6:p6)(f7:p7)(f8:p8)(f9:p9)(oU:p10)(f11:p11)(h:b)(e:p1/\p2/\p3/\p4/\p5/\p6/\p7/\p8/\p9/\p10/\p11->a=b:=by exact zE):a:=(e ⟨f1,f2,f3,f4,f5,f6,f7,f8,f9,oU,f11⟩).mpr h
theorem TA {p1 p2 p3 p4 p5 p6 p7 p8 p9 p10 p11 p12 a b:Prop}(f1:p1)(f2:p2)(f3:p3)(f4:p4)(f5:p5)(f6:p6)(f7:p7)(f8:p8)(f9:p9)(oU:p10)(f11:p11)(f12:p12)(h:b)(e:p1/\p2/\p3/\p4/\p5/\p6/\p7/\p8/\p9/\p10/\p11/\p12->a=b:=by exact zE):a:=(e ⟨f1,f2,f3,f4,f5,f6,f7,f8,f9,oU,f11,f12⟩).mpr h
theorem xE {p a b:Prop}(e:p->a=b:=by intro f;(simp -dsimp (disch:=first | assumption | omega) only [go_sem,Nat.reduceLT,Nat.reduceBEq,Nat.reduceAdd,Nat.reduceSub,Nat.reduceLeDiff,Nat.reduceEqDiff,↓reduceIte,beq_true,beq_false,decide_eq_true,decide_eq_false,not_false_eq_true,Nat.zero_add,List.length_map,List.length_cons,List.length_nil,Option.map_some,Option.map_none,Option.isSome_some,Option.isSome_none,List.length_append,List.append_nil,List.drop_zero,List.map_cons,List.map_nil,f])<;>exact rfl):p->a=b:=e
theorem xx {a b:Prop}(h:b)(e:a=b:=by(simp -dsimp (disch:=first | assumption | omega) only [go_sem,Nat.reduceLT,Nat.reduceBEq,Nat.reduceAdd,Nat.reduceSub,Nat.reduceLeDiff,Nat.reduceEqDiff,↓reduceIte,beq_true,beq_false,decide_eq_true,decide_eq_false,not_false_eq_true,Nat.zero_add,List.length_map,List.length_cons,List.length_nil,Option.map_some,Option.map_none,Option.isSome_some,Option.isSome_none,List.length_append,List.append_nil,List.drop_zero,List.map_cons,List.map_nil])<;>exact rfl):a:=e.mpr h
theorem xc {a:Prop}(e:a=True:=by(simp -dsimp (disch:=first | assumption | omega) only [go_sem,Nat.reduceLT,Nat.reduceBEq,Nat.reduceAdd,Nat.reduceSub,Nat.reduceLeDiff,Nat.reduceEqDiff,↓reduceIte,beq_true,beq_false,decide_eq_true,decide_eq_false,not_false_eq_true,Nat.zero_add,List.length_map,List.length_cons,List.length_nil,Option.map_some,Option.map_none,Option.isSome_some,Option.isSome_none,List.length_append,List.append_nil,List.drop_zero,List.map_cons,List.map_nil])<;>exact rfl):a:=of_eq_true e
theorem x1 {p1 a b:Prop}(f1:p1)(h:b)(e:p1->a=b:=by exact xE):a:=(e f1).mpr h
theorem w1 {p1 a:Prop}(f1:p1)(e:p1->a=True:=by exact xE):a:=of_eq_true (e f1)
theorem x2 {p1 p2 a b:Prop}(f1:p1)(f2:p2)(h:b)(e:p1/\p2->a=b:=by exact xE):a:=(e ⟨f1,f2⟩).mpr h
theorem w2 {p1 p2 a:Prop}(f1:p1)(f2:p2)(e:p1/\p2->a=True:=by exact xE):a:=of_eq_true (e ⟨f1,f2⟩)
theorem x3 {p1 p2 p3 a b:Prop}(f1:p1)(f2:p2)(f3:p3)(h:b)(e:p1/\p2/\p3->a=b:=by exact xE):a:=(e ⟨f1,f2,f3⟩).mpr h
theorem w3 {p1 p2 p3 a:Prop}(f1:p1)(f2:p2)(f3:p3)(e:p1/\p2/\p3->a=True:=by exact xE):a:=of_eq_true (e ⟨f1,f2,f3⟩)
theorem x4 {p1 p2 p3 p4 a b:Prop}(f1:p1)(f2:p2)(f3:p3)(f4:p4)(h:b)(e:p1/\p2/\p3/\p4->a=b:=by exact xE):a:=(e ⟨f1,f2,f3,f4⟩).mpr h
theorem w4 {p1 p2 p3 p4 a:Prop}(f1:p1)(f2:p2)(f3:p3)(f4:p4)(e:p1/\p2/\p3/\p4->a=True:=by exact xE):a:=of_eq_true (e ⟨f1,f2,f3,f4⟩)
theorem x5 {p1 p2 p3 p4 p5 a b:Prop}(f1:p1)(f2:p2)(f3:p3)(f4:p4)(f5:p5)(h:b)(e:p1/\p2/\p3/\p4/\p5->a=b:=by exact xE):a:=(e ⟨f1,f2,f3,f4,f5⟩).mpr h
theorem w5 {p1 p2 p3 p4 p5 a:Prop}(f1:p1)(f2:p2)(f3:p3)(f4:p4)(f5:p5)(e:p1/\p2/\p3/\p4/\p5->a=True:=by exact xE):a:=of_eq_true (e ⟨f1,f2,f3,f4,f5⟩)
theorem x6 {p1 p2 p3 p4 p5 p6 a b:Prop}(f1:p1)(f2:p2)(f3:p3)(f4:p4)(f5:p5)(f6:p6)(h:b)(e:p1/\p2/\p3/\p4/\p5/\p6->a=b:=by exact xE):a:=(e ⟨f1,f2,f3,f4,f5,f6⟩).mpr h
theorem w6 {p1 p2 p3 p4 p5 p6 a:Prop}(f1:p1)(f2:p2)(f3:p3)(f4:p4)(f5:p5)(f6:p6)(e:p1/\p2/\p3/\p4/\p5/\p6->a=True:=by exact xE):a:=of_eq_true (e ⟨f1,f2,f3,f4,f5,f6⟩)
theorem x7 {p1 p2 p3 p4 p5 p6 p7 a b:Prop}(f1:p1)(f2:p2)(f3:p3)(f4:p4)(f5:p5)(f6:p6)(f7:p7)(h:b)(e:p1/\p2/\p3/\p4/\p5/\p6/\p7->a=b:=by exact xE):a:=(e ⟨f1,f2,f3,f4,f5,f6,f7⟩).mpr h
theorem w7 {p1 p2 p3 p4 p5 p6 p7 a:Prop}(f1:p1)(f2:p2)(f3:p3)(f4:p4)(f5:p5)(f6:p6)(f7:p7)(e:p1/\p2/\p3/\p4/\p5/\p6/\p7->a=True:=by exact xE):a:=of_eq_true (e ⟨f1,f2,f3,f4,f5,f6,f7⟩)
theorem x8 {p1 p2 p3 p4 p5 p6 p7 p8 a b:Prop}(f1:p1)(f2:p2)(f3:p3)(f4:p4)(f5:p5)(f6:p6)(f7:p7)(f8:p8)(h:b)(e:p1/\p2/\p3/\p4/\p5/\p6/\p7/\p8->a=b:=by exact xE):a:=(e ⟨f1,f2,f3,f4,f5,f6,f7,f8⟩).mpr h
theorem x9 {p1 p2 p3 p4 p5 p6 p7 p8 p9 a b:Prop}(f1:p1)(f2:p2)(f3:p3)(f4:p4)(f5:p5)(f6:p6)(f7:p7)(f8:p8)(f9:p9)(h:b)(e:p1/\p2/\p3/\p4/\p5/\p6/\p7/\p8/\p9->a=b:=by exact xE):a:=(e ⟨f1,f2,f3,f4,f5,f6,f7,f8,f9⟩).mpr h
theorem OU {p1 p2 p3 p4 p5 p6 p7 p8 p9 p10 a b:Prop}(f1:p1)(f2:p2)(f3:p3)(f4:p4)(f5:p5)(f6:p6)(f7:p7)(f8:p8)(f9:p9)(oU:p10)(h:b)(e:p1/\p2/\p3/\p4/\p5/\p6/\p7/\p8/\p9/\p10->a=b:=by exact xE):a:=(e ⟨f1,f2,f3,f4,f5,f6,f7,f8,f9,oU⟩).mpr h
theorem TF {p1 p2 p3 p4 p5 p6 p7 p8 p9 p10 p11 a b:Prop}(f1:p1)(f2:p2)(f3:p3)(f4:p4)(f5:p5)(f6:p6)(f7:p7)(f8:p8)(f9:p9)(oU:p10)(f11:p11)(h:b)(e:p1/\p2/\p3/\p4/\p5/\p6/\p7/\p8/\p9/\p10/\p11->a=b:=by exact xE):a:=(e ⟨f1,f2,f3,f4,f5,f6,f7,f8,f9,oU,f11⟩).mpr h
theorem x12 {p1 p2 p3 p4 p5 p6 p7 p8 p9 p10 p11 p12 a b:Prop}(f1:p1)(f2:p2)(f3:p3)(f4:p4)(f5:p5)(f6:p6)(f7:p7)(f8:p8)(f9:p9)(oU:p10)(f11:p11)(f12:p12)(h:b)(e:p1/\p2/\p3/\p4/\p5/\p6/\p7/\p8/\p9/\p10/\p11/\p12->a=b:=by exact xE):a:=(e ⟨f1,f2,f3,f4,f5,f6,f7,f8,f9,oU,f11,f12⟩).mpr h
theorem gE {p a b:Prop}(e:p->a=b:=by intro f;(simp -dsimp (disch:=first | assumption | omega) only [go_sem,Nat.reduceLT,Nat.reduceBEq,Nat.reduceAdd,Nat.reduceSub,Nat.reduceLeDiff,Nat.reduceEqDiff,↓reduceIte,beq_true,beq_false,decide_eq_true,decide_eq_false,not_false_eq_true,Nat.zero_add,tJ,f])<;>exact rfl):p->a=b:=e
theorem gg {a b:Prop}(h:b)(e:a=b:=by(simp -dsimp (disch:=first | assumption | omega) only [go_sem,Nat.reduceLT,Nat.reduceBEq,Nat.reduceAdd,Nat.reduceSub,Nat.reduceLeDiff,Nat.reduceEqDiff,↓reduceIte,beq_true,beq_false,decide_eq_true,decide_eq_false,not_false_eq_true,Nat.zero_add,tJ])<;>exact rfl):a:=e.mpr h
theorem gc {a:Prop}(e:a=True:=by(simp -dsimp (disch:=first | assumption | omega) only [go_sem,Nat.reduceLT,Nat.reduceBEq,Nat.reduceAdd,Nat.reduceSub,Nat.reduceLeDiff,Nat.reduceEqDiff,↓reduceIte,beq_true,beq_false,decide_eq_true,decide_eq_false,not_false_eq_true,Nat.zero_add,tJ])<;>exact rfl):a:=of_eq_true e
theorem g1 {p1 a b:Prop}(f1:p1)(h:b)(e:p1->a=b:=by exact gE):a:=(e f1).mpr h
theorem f1 {p1 a:Prop}(f1:p1)(e:p1->a=True:=by exact gE):a:=of_eq_true (e f1)
theorem g2 {p1 p2 a b:Prop}(f1:p1)(f2:p2)(h:b)(e:p1/\p2->a=b:=by exact gE):a:=(e ⟨f1,f2⟩).mpr h
theorem f2 {p1 p2 a:Prop}(f1:p1)(f2:p2)(e:p1/\p2->a=True:=by exact gE):a:=of_eq_true (e ⟨f1,f2⟩)
theorem g3 {p1 p2 p3 a b:Prop}(f1:p1)(f2:p2)(f3:p3)(h:b)(e:p1/\p2/\p3->a=b:=by exact gE):a:=(e ⟨f1,f2,f3⟩).mpr h
theorem f3 {p1 p2 p3 a:Prop}(f1:p1)(f2:p2)(f3:p3)(e:p1/\p2/\p3->a=True:=by exact gE):a:=of_eq_true (e ⟨f1,f2,f3⟩)
theorem g4 {p1 p2 p3 p4 a b:Prop}(f1:p1)(f2:p2)(f3:p3)(f4:p4)(h:b)(e:p1/\p2/\p3/\p4->a=b:=by exact gE):a:=(e ⟨f1,f2,f3,f4⟩).mpr h
theorem f4 {p1 p2 p3 p4 a:Prop}(f1:p1)(f2:p2)(f3:p3)(f4:p4)(e:p1/\p2/\p3/\p4->a=True:=by exact gE):a:=of_eq_true (e ⟨f1,f2,f3,f4⟩)
theorem g5 {p1 p2 p3 p4 p5 a b:Prop}(f1:p1)(f2:p2)(f3:p3)(f4:p4)(f5:p5)(h:b)(e:p1/\p2/\p3/\p4/\p5->a=b:=by exact gE):a:=(e ⟨f1,f2,f3,f4,f5⟩).mpr h
theorem f5 {p1 p2 p3 p4 p5 a:Prop}(f1:p1)(f2:p2)(f3:p3)(f4:p4)(f5:p5)(e:p1/\p2/\p3/\p4/\p5->a=True:=by exact gE):a:=of_eq_true (e ⟨f1,f2,f3,f4,f5⟩)
theorem g6 {p1 p2 p3 p4 p5 p6 a b:Prop}(f1:p1)(f2:p2)(f3:p3)(f4:p4)(f5:p5)(f6:p6)(h:b)(e:p1/\p2/\p3/\p4/\p5/\p6->a=b:=by exact gE):a:=(e ⟨f1,f2,f3,f4,f5,f6⟩).mpr h
theorem f6 {p1 p2 p3 p4 p5 p6 a:Prop}(f1:p1)(f2:p2)(f3:p3)(f4:p4)(f5:p5)(f6:p6)(e:p1/\p2/\p3/\p4/\p5/\p6->a=True:=by exact gE):a:=of_eq_true (e ⟨f1,f2,f3,f4,f5,f6⟩)
theorem g7 {p1 p2 p3 p4 p5 p6 p7 a b:Prop}(f1:p1)(f2:p2)(f3:p3)(f4:p4)(f5:p5)(f6:p6)(f7:p7)(h:b)(e:p1/\p2/\p3/\p4/\p5/\p6/\p7->a=b:=by exact gE):a:=(e ⟨f1,f2,f3,f4,f5,f6,f7⟩).mpr h
theorem f7 {p1 p2 p3 p4 p5 p6 p7 a:Prop}(f1:p1)(f2:p2)(f3:p3)(f4:p4)(f5:p5)(f6:p6)(f7:p7)(e:p1/\p2/\p3/\p4/\p5/\p6/\p7->a=True:=by exact gE):a:=of_eq_true (e ⟨f1,f2,f3,f4,f5,f6,f7⟩)
theorem g8 {p1 p2 p3 p4 p5 p6 p7 p8 a b:Prop}(f1:p1)(f2:p2)(f3:p3)(f4:p4)(f5:p5)(f6:p6)(f7:p7)(f8:p8)(h:b)(e:p1/\p2/\p3/\p4/\p5/\p6/\p7/\p8->a=b:=by exact gE):a:=(e ⟨f1,f2,f3,f4,f5,f6,f7,f8⟩).mpr h
theorem f8 {p1 p2 p3 p4 p5 p6 p7 p8 a:Prop}(f1:p1)(f2:p2)(f3:p3)(f4:p4)(f5:p5)(f6:p6)(f7:p7)(f8:p8)(e:p1/\p2/\p3/\p4/\p5/\p6/\p7/\p8->a=True:=by exact gE):a:=of_eq_true (e ⟨f1,f2,f3,f4,f5,f6,f7,f8⟩)
theorem g9 {p1 p2 p3 p4 p5 p6 p7 p8 p9 a b:Prop}(f1:p1)(f2:p2)(f3:p3)(f4:p4)(f5:p5)(f6:p6)(f7:p7)(f8:p8)(f9:p9)(h:b)(e:p1/\p2/\p3/\p4/\p5/\p6/\p7/\p8/\p9->a=b:=by exact gE):a:=(e ⟨f1,f2,f3,f4,f5,f6,f7,f8,f9⟩).mpr h
theorem f9 {p1 p2 p3 p4 p5 p6 p7 p8 p9 a:Prop}(f1:p1)(f2:p2)(f3:p3)(f4:p4)(f5:p5)(f6:p6)(f7:p7)(f8:p8)(f9:p9)(e:p1/\p2/\p3/\p4/\p5/\p6/\p7/\p8/\p9->a=True:=by exact gE):a:=of_eq_true (e ⟨f1,f2,f3,f4,f5,f6,f7,f8,f9⟩)
theorem zS {p1 p2 p3 p4 p5 p6 p7 p8 p9 p10 a b:Prop}(f1:p1)(f2:p2)(f3:p3)(f4:p4)(f5:p5)(f6:p6)(f7:p7)(f8:p8)(f9:p9)(oU:p10)(h:b)(e:p1/\p2/\p3/\p4/\p5/\p6/\p7/\p8/\p9/\p10->a=b:=by exact gE):a:=(e ⟨f1,f2,f3,f4,f5,f6,f7,f8,f9,oU⟩).mpr h
theorem oU {p1 p2 p3 p4 p5 p6 p7 p8 p9 p10 a:Prop}(f1:p1)(f2:p2)(f3:p3)(f4:p4)(f5:p5)(f6:p6)(f7:p7)(f8:p8)(f9:p9)(oU:p10)(e:p1/\p2/\p3/\p4/\p5/\p6/\p7/\p8/\p9/\p10->a=True:=by exact gE):a:=of_eq_true (e ⟨f1,f2,f3,f4,f5,f6,f7,f8,f9,oU⟩)
theorem vW {p1 p2 p3 p4 p5 p6 p7 p8 p9 p10 p11 a b:Prop}(f1:p1)(f2:p2)(f3:p3)(f4:p4)(f5:p5)(f6:p6)(f7:p7)(f8:p8)(f9:p9)(oU:p10)(f11:p11)(h:b)(e:p1/\p2/\p3/\p4/\p5/\p6/\p7/\p8/\p9/\p10/\p11->a=b:=by exact gE):a:=(e ⟨f1,f2,f3,f4,f5,f6,f7,f8,f9,oU,f11⟩).mpr h
theorem Bg {p1 p2 p3 p4 p5 p6 p7 p8 p9 p10 p11 p12 a b:Prop}(f1:p1)(f2:p2)(f3:p3)(f4:p4)(f5:p5)(f6:p6)(f7:p7)(f8:p8)(f9:p9)(oU:p10)(f11:p11)(f12:p12)(h:b)(e:p1/\p2/\p3/\p4/\p5/\p6/\p7/\p8/\p9/\p10/\p11/\p12->a=b:=by exact gE):a:=(e ⟨f1,f2,f3,f4,f5,f6,f7,f8,f9,oU,f11,f12⟩).mpr h
theorem uE {p a b:Prop}(e:p->a=b:=by intro f;(simp -dsimp (disch:=first | assumption | omega) only [go_sem,Nat.reduceLT,Nat.reduceBEq,Nat.reduceAdd,Nat.reduceSub,Nat.reduceLeDiff,Nat.reduceEqDiff,↓reduceIte,beq_true,beq_false,decide_eq_true,decide_eq_false,not_false_eq_true,Nat.zero_add,tJ,List.length_map,List.length_cons,List.length_nil,Option.map_some,Option.map_none,Option.isSome_some,Option.isSome_none,List.length_append,List.append_nil,List.drop_zero,List.map_cons,List.map_nil,f])<;>exact rfl):p->a=b:=e
theorem uu {a b:Prop}(h:b)(e:a=b:=by(simp -dsimp (disch:=first | assumption | omega) only [go_sem,Nat.reduceLT,Nat.reduceBEq,Nat.reduceAdd,Nat.reduceSub,Nat.reduceLeDiff,Nat.reduceEqDiff,↓reduceIte,beq_true,beq_false,decide_eq_true,decide_eq_false,not_false_eq_true,Nat.zero_add,tJ,List.length_map,List.length_cons,List.length_nil,Option.map_some,Option.map_none,Option.isSome_some,Option.isSome_none,List.length_append,List.append_nil,List.drop_zero,List.map_cons,List.map_nil])<;>exact rfl):a:=e.mpr h
theorem vc {a:Prop}(e:a=True:=by(simp -dsimp (disch:=first | assumption | omega) only [go_sem,Nat.reduceLT,Nat.reduceBEq,Nat.reduceAdd,Nat.reduceSub,Nat.reduceLeDiff,Nat.reduceEqDiff,↓reduceIte,beq_true,beq_false,decide_eq_true,decide_eq_false,not_false_eq_true,Nat.zero_add,tJ,List.length_map,List.length_cons,List.length_nil,Option.map_some,Option.map_none,Option.isSome_some,Option.isSome_none,List.length_append,List.append_nil,List.drop_zero,List.map_cons,List.map_nil])<;>exact rfl):a:=of_eq_true e
theorem u1 {p1 a b:Prop}(f1:p1)(h:b)(e:p1->a=b:=by exact uE):a:=(e f1).mpr h
theorem v1 {p1 a:Prop}(f1:p1)(e:p1->a=True:=by exact uE):a:=of_eq_true (e f1)
theorem u2 {p1 p2 a b:Prop}(f1:p1)(f2:p2)(h:b)(e:p1/\p2->a=b:=by exact uE):a:=(e ⟨f1,f2⟩).mpr h
theorem v2 {p1 p2 a:Prop}(f1:p1)(f2:p2)(e:p1/\p2->a=True:=by exact uE):a:=of_eq_true (e ⟨f1,f2⟩)
theorem u3 {p1 p2 p3 a b:Prop}(f1:p1)(f2:p2)(f3:p3)(h:b)(e:p1/\p2/\p3->a=b:=by exact uE):a:=(e ⟨f1,f2,f3⟩).mpr h
theorem v3 {p1 p2 p3 a:Prop}(f1:p1)(f2:p2)(f3:p3)(e:p1/\p2/\p3->a=True:=by exact uE):a:=of_eq_true (e ⟨f1,f2,f3⟩)
theorem u4 {p1 p2 p3 p4 a b:Prop}(f1:p1)(f2:p2)(f3:p3)(f4:p4)(h:b)(e:p1/\p2/\p3/\p4->a=b:=by exact uE):a:=(e ⟨f1,f2,f3,f4⟩).mpr h
theorem v4 {p1 p2 p3 p4 a:Prop}(f1:p1)(f2:p2)(f3:p3)(f4:p4)(e:p1/\p2/\p3/\p4->a=True:=by exact uE):a:=of_eq_true (e ⟨f1,f2,f3,f4⟩)
theorem u5 {p1 p2 p3 p4 p5 a b:Prop}(f1:p1)(f2:p2)(f3:p3)(f4:p4)(f5:p5)(h:b)(e:p1/\p2/\p3/\p4/\p5->a=b:=by exact uE):a:=(e ⟨f1,f2,f3,f4,f5⟩).mpr h
theorem v5 {p1 p2 p3 p4 p5 a:Prop}(f1:p1)(f2:p2)(f3:p3)(f4:p4)(f5:p5)(e:p1/\p2/\p3/\p4/\p5->a=True:=by exact uE):a:=of_eq_true (e ⟨f1,f2,f3,f4,f5⟩)
theorem u6 {p1 p2 p3 p4 p5 p6 a b:Prop}(f1:p1)(f2:p2)(f3:p3)(f4:p4)(f5:p5)(f6:p6)(h:b)(e:p1/\p2/\p3/\p4/\p5/\p6->a=b:=by exact uE):a:=(e ⟨f1,f2,f3,f4,f5,f6⟩).mpr h
theorem v6 {p1 p2 p3 p4 p5 p6 a:Prop}(f1:p1)(f2:p2)(f3:p3)(f4:p4)(f5:p5)(f6:p6)(e:p1/\p2/\p3/\p4/\p5/\p6->a=True:=by exact uE):a:=of_eq_true (e ⟨f1,f2,f3,f4,f5,f6⟩)
theorem u7 {p1 p2 p3 p4 p5 p6 p7 a b:Prop}(f1:p1)(f2:p2)(f3:p3)(f4:p4)(f5:p5)(f6:p6)(f7:p7)(h:b)(e:p1/\p2/\p3/\p4/\p5/\p6/\p7->a=b:=by exact uE):a:=(e ⟨f1,f2,f3,f4,f5,f6,f7⟩).mpr h
theorem v7 {p1 p2 p3 p4 p5 p6 p7 a:Prop}(f1:p1)(f2:p2)(f3:p3)(f4:p4)(f5:p5)(f6:p6)(f7:p7)(e:p1/\p2/\p3/\p4/\p5/\p6/\p7->a=True:=by exact uE):a:=of_eq_true (e ⟨f1,f2,f3,f4,f5,f6,f7⟩)
theorem u8 {p1 p2 p3 p4 p5 p6 p7 p8 a b:Prop}(f1:p1)(f2:p2)(f3:p3)(f4:p4)(f5:p5)(f6:p6)(f7:p7)(f8:p8)(h:b)(e:p1/\p2/\p3/\p4/\p5/\p6/\p7/\p8->a=b:=by exact uE):a:=(e ⟨f1,f2,f3,f4,f5,f6,f7,f8⟩).mpr h
theorem v8 {p1 p2 p3 p4 p5 p6 p7 p8 a:Prop}(f1:p1)(f2:p2)(f3:p3)(f4:p4)(f5:p5)(f6:p6)(f7:p7)(f8:p8)(e:p1/\p2/\p3/\p4/\p5/\p6/\p7/\p8->a=True:=by exact uE):a:=of_eq_true (e ⟨f1,f2,f3,f4,f5,f6,f7,f8⟩)
theorem u9 {p1 p2 p3 p4 p5 p6 p7 p8 p9 a b:Prop}(f1:p1)(f2:p2)(f3:p3)(f4:p4)(f5:p5)(f6:p6)(f7:p7)(f8:p8)(f9:p9)(h:b)(e:p1/\p2/\p3/\p4/\p5/\p6/\p7/\p8/\p9->a=b:=by exact uE):a:=(e ⟨f1,f2,f3,f4,f5,f6,f7,f8,f9⟩).mpr h
theorem v9 {p1 p2 p3 p4 p5 p6 p7 p8 p9 a:Prop}(f1:p1)(f2:p2)(f3:p3)(f4:p4)(f5:p5)(f6:p6)(f7:p7)(f8:p8)(f9:p9)(e:p1/\p2/\p3/\p4/\p5/\p6/\p7/\p8/\p9->a=True:=by exact uE):a:=of_eq_true (e ⟨f1,f2,f3,f4,f5,f6,f7,f8,f9⟩)
theorem u10 {p1 p2 p3 p4 p5 p6 p7 p8 p9 p10 a b:Prop}(f1:p1)(f2:p2)(f3:p3)(f4:p4)(f5:p5)(f6:p6)(f7:p7)(f8:p8)(f9:p9)(oU:p10)(h:b)(e:p1/\p2/\p3/\p4/\p5/\p6/\p7/\p8/\p9/\p10->a=b:=by exact uE):a:=(e ⟨f1,f2,f3,f4,f5,f6,f7,f8,f9,oU⟩).mpr h
theorem Dg {p1 p2 p3 p4 p5 p6 p7 p8 p9 p10 a:Prop}(f1:p1)(f2:p2)(f3:p3)(f4:p4)(f5:p5)(f6:p6)(f7:p7)(f8:p8)(f9:p9)(oU:p10)(e:p1/\p2/\p3/\p4/\p5/\p6/\p7/\p8/\p9/\p10->a=True:=by exact uE):a:=of_eq_true (e ⟨f1,f2,f3,f4,f5,f6,f7,f8,f9,oU⟩)
theorem zJ {p1 p2 p3 p4 p5 p6 p7 p8 p9 p10 p11 a b:Prop}(f1:p1)(f2:p2)(f3:p3)(f4:p4)(f5:p5)(f6:p6)(f7:p7)(f8:p8)(f9:p9)(oU:p10)(f11:p11)(h:b)(e:p1/\p2/\p3/\p4/\p5/\p6/\p7/\p8/\p9/\p10/\p11->a=b:=by exact uE):a:=(e ⟨f1,f2,f3,f4,f5,f6,f7,f8,f9,oU,f11⟩).mpr h
theorem OT {p1 p2 p3 p4 p5 p6 p7 p8 p9 p10 p11 a:Prop}(f1:p1)(f2:p2)(f3:p3)(f4:p4)(f5:p5)(f6:p6)(f7:p7)(f8:p8)(f9:p9)(oU:p10)(f11:p11)(e:p1/\p2/\p3/\p4/\p5/\p6/\p7/\p8/\p9/\p10/\p11->a=True:=by exact uE):a:=of_eq_true (e ⟨f1,f2,f3,f4,f5,f6,f7,f8,f9,oU,f11⟩)
theorem rP {p1 p2 p3 p4 p5 p6 p7 p8 p9 p10 p11 p12 a b:Prop}(f1:p1)(f2:p2)(f3:p3)(f4:p4)(f5:p5)(f6:p6)(f7:p7)(f8:p8)(f9:p9)(oU:p10)(f11:p11)(f12:p12)(h:b)(e:p1/\p2/\p3/\p4/\p5/\p6/\p7/\p8/\p9/\p10/\p11/\p12->a=b:=by exact uE):a:=(e ⟨f1,f2,f3,f4,f5,f6,f7,f8,f9,oU,f11,f12⟩).mpr h
theorem zK {p1 p2 p3 p4 p5 p6 p7 p8 p9 p10 p11 p12 a:Prop}(f1:p1)(f2:p2)(f3:p3)(f4:p4)(f5:p5)(f6:p6)(f7:p7)(f8:p8)(f9:p9)(oU:p10)(f11:p11)(f12:p12)(e:p1/\p2/\p3/\p4/\p5/\p6/\p7/\p8/\p9/\p10/\p11/\p12->a=True:=by exact uE):a:=of_eq_true (e ⟨f1,f2,f3,f4,f5,f6,f7,f8,f9,oU,f11,f12⟩)
theorem sb {E0 E:Env}(h:E0.sub E:=by repeat' (first | exact Env.sub.nil | refine Env.sub.cons rfl ?_)):E0.sub E:=h
theorem aU.mq {Inv:Nat->Env->Nat->Hp->Prop}{m:Nat}{E0 E':Env}{n':Nat}{h':Hp}{t}(m':Nat)(h3:Inv m' E0 n' h')(h1:m'<m:=by omega)(h2:E0.sub E':=by repeat' (first | exact Env.sub.nil | refine Env.sub.cons rfl ?_)):aU Inv m E' n' h' t:=⟨m',E0,h1,h2,h3⟩
theorem fO.mq {Inv:Env->Nat->Hp->Prop}{E E0:Env}{n:Nat}{h:Hp}{t}(hi:Inv E0 n h)(hs:E0.sub E:=by repeat' (first | exact Env.sub.nil | refine Env.sub.cons rfl ?_)):fO Inv E n h t:=⟨E0,hs,hi⟩
theorem qCu {P:Program}{Gl:qC6}{Gm:qC7}{Kp:qC8}{x:Ctx}{c:Code}{B:Nat->Prop}{k:dZ}(Inv:Nat->Env->Nat->Hp->Prop)(m:Nat){E0 E:Env}{n:Nat}{h:Hp}(hi:Inv m E0 n h)(step:∀ m E n h,aE n h->(∀ t,n<=t->B t)->Inv m E n h->dN P Gl Gm Kp x B c (wD (fun E' n' h'=>aU Inv m E' n' h' ⟨⟩) k) E n h){t s}(hs:E0.sub E:=by repeat' (first | exact Env.sub.nil | refine Env.sub.cons rfl ?_)):cR P Gl Gm Kp x (.loop c) E n h B k t s:=qCQ Inv m hs hi step
theorem nf {a b:Prop}(h:a)(e:a=b:=by simp only[Bool.false_eq_true,if_false]<;>exact rfl):b:=e.mp h
theorem nt {a b:Prop}(h:a)(e:a=b:=by simp only[if_true]<;>exact rfl):b:=e.mp h
end Go.Ez
namespace Go.Proofs.Vt
open Go.Ez
abbrev qCv (f:Nat):Prop:=∀ a:List AV,aT Tryz.prog f a=.ret (.enter f a)
abbrev qCw (t i k:Nat):Prop:=∀ a:AV,aR Tryz.prog t a i=AM.ofOpt (bW a k)
abbrev qCz (t k:Nat):Prop:=∀(es:Nat) (xs:List AV) (i:Nat) (v:AV),cP Tryz.prog t es xs i v=fE k es xs i v
abbrev qCy (t k:Nat):Prop:=∀(cs:List AV) (i:Nat) (v:AV),dP Tryz.prog t cs i v=dQ k cs i v
abbrev qC1 (t:Nat):Prop:=∀(cs:List AV) (i:Nat),cN Tryz.prog t cs i=dC cs i
abbrev qC5 (t k:Nat):Prop:=∀(cs:List AV) (i:Nat),cN Tryz.prog t cs i=(iP k) cs i
abbrev qC2 (t:Nat):Prop:=∀(es:Nat) (xs:List AV) (i:Nat),cF Tryz.prog t es xs i=dM dC es xs i
abbrev qC4 (t k:Nat):Prop:=∀(es:Nat) (xs:List AV) (i:Nat),cF Tryz.prog t es xs i=dM (iP k) es xs i
abbrev qC3 (t:Nat)(l:List (Nat×Nat)):Prop:=∀ parts:List (Nat×AV),gQ Tryz.prog t parts=(bK Tryz.prog t).bind fun z=>(gW (fun i=>l[i]?) z.cells parts).map .agg
abbrev qCx (t:Nat)(b:Bool)(k:Nat)(z:AV):Prop:=dR Tryz.prog t=some b/\bN Tryz.prog t=some k/\bK Tryz.prog t=some z
abbrev qC0 (t n k:Nat)(b:Bool)(z:AV):Prop:=∀ parts:List (Nat×AV),bU Tryz.prog t n parts=eM k b z n parts
theorem SU:qCx 3 false 1 (.int .i64 0):=⟨kr,kr,kr⟩
theorem ty4:qCx 4 false 1 (.bool false):=⟨kr,kr,kr⟩
theorem ty5:qCx 5 false 1 (.int .u8 0):=⟨kr,kr,kr⟩
theorem SV:qCx 9 false 1 (.str []):=⟨kr,kr,kr⟩
theorem Tn:qCx 24 true 3 (.agg [.int .i64 0,.int .i64 0,.bool false]):=⟨kr,kr,kr⟩
theorem To:qCx 27 false 1 (.sl0):=⟨kr,kr,kr⟩
theorem HU:qCx 29 true 2 (.agg [.bool false,.sl0]):=⟨kr,kr,kr⟩
theorem Tp:qCx 30 false 1 (.sl0):=⟨kr,kr,kr⟩
theorem Tq:qCx 32 true 8 (.agg [.int .i64 0,.int .i64 0,.str [],.bool false,.sl0,.sl0,.int .i64 0,.int .i64 0]):=⟨kr,kr,kr⟩
theorem Tr:qCx 38 false 1 (.int .i64 0):=⟨kr,kr,kr⟩
theorem Ts:qCx 44 false 1 (.sl0):=⟨kr,kr,kr⟩
theorem Tt:qCx 48 true 8 (.agg [.int .i64 0,.str [],.bool false,.sl0,.int .i64 0,.int .i64 0,.int .i64 0,.int .i64 0]):=⟨kr,kr,kr⟩
theorem Tu:qCx 88 true 5 (.agg [.str [],.int .i64 0,.int .i64 0,.bool false,.bool false]):=⟨kr,kr,kr⟩
theorem Tv:qCx 95 false 1 (.ptr0):=⟨kr,kr,kr⟩
theorem HV:qCx 97 false 1 (.fn0):=⟨kr,kr,kr⟩
theorem Cw:qCx 107 true 2 (.agg [.int .i64 0,.int .i64 0]):=⟨kr,kr,kr⟩
theorem No:qCx 109 false 1 (.map0):=⟨kr,kr,kr⟩
theorem Np:qCx 110 false 1 (.map0):=⟨kr,kr,kr⟩
theorem qAZ:qCx 112 true 2 (.agg [.map0,.map0]):=⟨kr,kr,kr⟩
theorem qAa:qCx 114 true 5 (.agg [.map0,.map0,.sl0,.int .i64 0,.sl0]):=⟨kr,kr,kr⟩
theorem HS:qCx 120 true 4 (.agg [.int .i64 0,.int .i64 0,.bool false,.bool false]):=⟨kr,kr,kr⟩
theorem Cx:qCx 135 false 1 (.fn0):=⟨kr,kr,kr⟩
theorem Cy:qCx 146 true 10 (.agg [.int .i64 0,.int .i64 0,.str [],.bool false,.sl0,.sl0,.int .i64 0,.int .i64 0,.int .i64 0,.int .i64 0]):=⟨kr,kr,kr⟩
theorem Nq:qCx 158 true 5 (.agg [.str [],.int .i64 0,.int .i64 0,.bool false,.bool false]):=⟨kr,kr,kr⟩
theorem Cz:qCx 192 false 1 (.ptr0):=⟨kr,kr,kr⟩
theorem Da:qCx 195 false 1 (.ptr0):=⟨kr,kr,kr⟩
theorem qAb:qCx 198 true 2 (.agg [.str [],.int .i64 0]):=⟨kr,kr,kr⟩
theorem Db:qCx 199 false 1 (.sl0):=⟨kr,kr,kr⟩
theorem qAc:qCx 201 true 5 (.agg [.str [],.int .i64 0,.ptr0,.sl0,.sl0]):=⟨kr,kr,kr⟩
theorem Dc:qCx 205 true 2 (.agg [.int .i64 0,.int .i64 0]):=⟨kr,kr,kr⟩
theorem Dd:qCx 207 false 1 (.sl0):=⟨kr,kr,kr⟩
theorem De:qCx 209 true 6 (.agg [.str [],.int .i64 0,.int .i64 0,.bool false,.sl0,.int .i64 0]):=⟨kr,kr,kr⟩
theorem HT:qCx 251 true 2 (.agg [.int .i64 0,.int .i64 0]):=⟨kr,kr,kr⟩
theorem Nr:qCx 253 false 1 (.map0):=⟨kr,kr,kr⟩
theorem Ns:qCx 254 false 1 (.map0):=⟨kr,kr,kr⟩
theorem qAd:qCx 256 true 3 (.agg [.map0,.map0,.int .i64 0]):=⟨kr,kr,kr⟩
theorem qAe:qCx 288 true 2 (.agg [.int .i64 0,.int .i64 0]):=⟨kr,kr,kr⟩
theorem Nt:qCx 319 true 2 (.agg [.str [],.int .i64 0]):=⟨kr,kr,kr⟩
theorem ca15:qCv 15:=aH Tryz.func15 rfl kr
theorem ca16:qCv 16:=aH Tryz.func16 rfl kr
theorem wa24:qCy 24 3:=dD Tn.2.1
theorem we24:qCz 24 3:=cH Tn.2.1
theorem ln9 (x:AV):pK Tryz.prog #[9] x=Rx x:=GA Tryz.underlying9 x
theorem ca17:qCv 17:=aH Tryz.func17 rfl kr
theorem wa32:qCy 32 8:=dD Tq.2.1
theorem we32:qCz 32 8:=cH Tq.2.1
theorem ra24:qC5 24 3:=iF Tn.1 Tn.2.1
theorem re24:qC4 24 3:=fD Tn.1 Tn.2.1
theorem ca18:qCv 18:=aH Tryz.func18 rfl kr
theorem ra32:qC5 32 8:=iF Tq.1 Tq.2.1
theorem re32:qC4 32 8:=fD Tq.1 Tq.2.1
theorem ca20:qCv 20:=aH Tryz.func20 rfl kr
theorem ca19:qCv 19:=aH Tryz.func19 rfl kr
theorem ca21:qCv 21:=aH Tryz.func21 rfl kr
theorem PG:qC0 30 1 8 true (.agg [.int .i64 0,.int .i64 0,.str [],.bool false,.sl0,.sl0,.int .i64 0,.int .i64 0]):=dB (e:=32) kr kr kr kr _ rfl
theorem ca22:qCv 22:=aH Tryz.func22 rfl kr
theorem ca23:qCv 23:=aH Tryz.func23 rfl kr
theorem QG:qCw 24 1 1:=fun a=>kr
theorem ra3:qC1 3:=cZ SU.1 SU.2.1
theorem re3:qC2 3:=cQ SU.1 SU.2.1
theorem ca24:qCv 24:=aH Tryz.func24 rfl kr
theorem PM:qC0 71 2 1 false (.str []):=dB (e:=9) kr kr kr kr _ rfl
theorem sc9 (x:AV)(lo hi mx:Option AV):lK Tryz.prog 9 x lo hi mx=tN x lo hi mx:=BH Tryz.underlying9 x lo hi mx
theorem ln44 (x:AV):pK Tryz.prog #[44] x=kR x:=mJ Tryz.underlying44 x
theorem ia44 (x i:AV):dU Tryz.prog 44 x i=rK 8 x i:=qN Tryz.underlying44 kr x i
theorem QU:qCw 48 3 4:=fun a=>kr
theorem PL:qC0 71 1 1 false (.str []):=dB (e:=9) kr kr kr kr _ rfl
theorem pl48:qC3 48 [(0,1),(1,1),(2,2),(4,1),(5,1),(6,1),(7,1)]:=fun _=>kr
theorem PK:qC0 44 1 8 true (.agg [.int .i64 0,.str [],.bool false,.sl0,.int .i64 0,.int .i64 0,.int .i64 0,.int .i64 0]):=dB (e:=48) kr kr kr kr _ rfl
theorem JC (s x:AV):jH Tryz.prog #[44,44] s x=jN 8 88 s x:=kP (e:=48) (z:=.agg [.int .i64 0,.str [],.bool false,.sl0,.int .i64 0,.int .i64 0,.int .i64 0,.int .i64 0]) kr Tryz.underlying44 rfl kr kr kr rfl s x
theorem ca39:qCv 39:=aH Tryz.func39 rfl kr
theorem JB (s x:AV):jH Tryz.prog #[30,30] s x=jN 8 104 s x:=kP (e:=32) (z:=.agg [.int .i64 0,.int .i64 0,.str [],.bool false,.sl0,.sl0,.int .i64 0,.int .i64 0]) kr Tryz.underlying30 rfl kr kr kr rfl s x
theorem ln30 (x:AV):pK Tryz.prog #[30] x=kR x:=mJ Tryz.underlying30 x
theorem ia30 (x i:AV):dU Tryz.prog 30 x i=rK 8 x i:=qN Tryz.underlying30 kr x i
theorem QP:qCw 32 5 6:=fun a=>kr
theorem QQ:qCw 32 6 7:=fun a=>kr
theorem ln27 (x:AV):pK Tryz.prog #[27] x=kR x:=mJ Tryz.underlying27 x
theorem QO:qCw 32 4 5:=fun a=>kr
theorem ra30:qC1 30:=cZ Tp.1 Tp.2.1
theorem re30:qC2 30:=cQ Tp.1 Tp.2.1
theorem QK:qCw 32 0 0:=fun a=>kr
theorem ln71 (x:AV):pK Tryz.prog #[71] x=kR x:=mJ Tryz.underlying71 x
theorem ia71 (x i:AV):dU Tryz.prog 71 x i=rK 1 x i:=qN Tryz.underlying71 kr x i
theorem ra9:qC1 9:=cZ SV.1 SV.2.1
theorem re9:qC2 9:=cQ SV.1 SV.2.1
theorem ca54:qCv 54:=aH Tryz.func54 rfl kr
theorem ia27 (x i:AV):dU Tryz.prog 27 x i=rK 1 x i:=qN Tryz.underlying27 kr x i
theorem QM:qCw 32 2 2:=fun a=>kr
theorem ca67:qCv 67:=aH Tryz.func67 rfl kr
theorem PI:qC0 30 3 8 true (.agg [.int .i64 0,.int .i64 0,.str [],.bool false,.sl0,.sl0,.int .i64 0,.int .i64 0]):=dB (e:=32) kr kr kr kr _ rfl
theorem PH:qC0 30 2 8 true (.agg [.int .i64 0,.int .i64 0,.str [],.bool false,.sl0,.sl0,.int .i64 0,.int .i64 0]):=dB (e:=32) kr kr kr kr _ rfl
theorem ca71:qCv 71:=aH Tryz.func71 rfl kr
theorem ca70:qCv 70:=aH Tryz.func70 rfl kr
theorem wa88:qCy 88 5:=dD Tu.2.1
theorem we88:qCz 88 5:=cH Tu.2.1
theorem QZ:qCw 88 1 1:=fun a=>kr
theorem pl32:qC3 32 [(0,1),(1,1),(2,1),(3,2),(5,1),(6,1),(7,1)]:=fun _=>kr
theorem QF:qCw 24 0 0:=fun a=>kr
theorem QH:qCw 24 2 2:=fun a=>kr
theorem ra4:qC1 4:=cZ ty4.1 ty4.2.1
theorem re4:qC2 4:=cQ ty4.1 ty4.2.1
theorem ca72:qCv 72:=aH Tryz.func72 rfl kr
theorem ca74:qCv 74:=aH Tryz.func74 rfl kr
theorem ca73:qCv 73:=aH Tryz.func73 rfl kr
theorem ca78:qCv 78:=aH Tryz.func78 rfl kr
theorem ix9 (x i:AV):sG Tryz.prog 9 x i=Vw x i:=RO Tryz.underlying9 x i
theorem wa48:qCy 48 8:=dD Tt.2.1
theorem we48:qCz 48 8:=cH Tt.2.1
theorem wa3:qCy 3 1:=dD SU.2.1
theorem we3:qCz 3 1:=cH SU.2.1
theorem QV:qCw 48 4 5:=fun a=>kr
theorem QW:qCw 48 5 6:=fun a=>kr
theorem QX:qCw 48 6 7:=fun a=>kr
theorem ra48:qC5 48 8:=iF Tt.1 Tt.2.1
theorem re48:qC4 48 8:=fD Tt.1 Tt.2.1
theorem QR:qCw 48 0 0:=fun a=>kr
theorem ca86:qCv 86:=aH Tryz.func86 rfl kr
theorem wa95:qCy 95 1:=dD Tv.2.1
theorem we95:qCz 95 1:=cH Tv.2.1
theorem ca87:qCv 87:=aH Tryz.func87 rfl kr
theorem qAf:qCy 107 2:=dD Cw.2.1
theorem qAs:qCz 107 2:=cH Cw.2.1
theorem KL:qCw 107 0 0:=fun a=>kr
theorem ra38:qC1 38:=cZ Tr.1 Tr.2.1
theorem re38:qC2 38:=cQ Tr.1 Tr.2.1
theorem KM:qCw 107 1 1:=fun a=>kr
theorem ra95:qC1 95:=cZ Tv.1 Tv.2.1
theorem re95:qC2 95:=cQ Tv.1 Tv.2.1
theorem KR:qCw 114 2 3:=fun a=>kr
theorem ca92:qCv 92:=aH Tryz.func92 rfl kr
theorem YL (m:AV)(s:List UInt8)(ok:Bool):kH Tryz.prog 109 m (.str s) ok=oX (.agg [.int .i64 0,.int .i64 0,.bool false]) m (.str s) ok:=sK Tryz.underlying109 kr m _ ok (mH Tryz.underlying9 s)
theorem ca93:qCv 93:=aH Tryz.func93 rfl kr
theorem YM (m:AV)(s:List UInt8)(ok:Bool):kH Tryz.prog 110 m (.str s) ok=oX (.agg [.int .i64 0,.int .i64 0,.bool false,.bool false]) m (.str s) ok:=sK Tryz.underlying110 kr m _ ok (mH Tryz.underlying9 s)
theorem qAg:qCy 120 4:=dD HS.2.1
theorem qAt:qCz 120 4:=cH HS.2.1
theorem KU:qCw 120 0 0:=fun a=>kr
theorem MA (cs:List AV):nW Tryz.prog 120 (.agg cs) 1=AM.ofOpt (cN Tryz.prog 4 cs 3):=kr
theorem TM:qCv 101:=aH Tryz.func101 rfl kr
theorem QL:qCw 32 1 1:=fun a=>kr
theorem QN:qCw 32 3 3:=fun a=>kr
theorem QI:qCw 29 0 0:=fun a=>kr
theorem QJ:qCw 29 1 1:=fun a=>kr
theorem ra27:qC1 27:=cZ To.1 To.2.1
theorem re27:qC2 27:=cQ To.1 To.2.1
theorem TN:qCv 106:=aH Tryz.func106 rfl kr
theorem TO:qCv 109:=aH Tryz.func109 rfl kr
theorem qAh:qCy 135 1:=dD Cx.2.1
theorem qAu:qCz 135 1:=cH Cx.2.1
theorem ZT:qC1 135:=cZ Cx.1 Cx.2.1
theorem qAG:qC2 135:=cQ Cx.1 Cx.2.1
theorem TQ:qCv 120:=aH Tryz.func120 rfl kr
theorem wa30:qCy 30 1:=dD Tp.2.1
theorem we30:qCz 30 1:=cH Tp.2.1
theorem ln91 (x:AV):pK Tryz.prog #[91] x=kR x:=mJ Tryz.underlying91 x
theorem ia91 (x i:AV):dU Tryz.prog 91 x i=rK 5 x i:=qN Tryz.underlying91 kr x i
theorem QY:qCw 88 0 0:=fun a=>kr
theorem ra88:qC5 88 5:=iF Tu.1 Tu.2.1
theorem re88:qC4 88 5:=fD Tu.1 Tu.2.1
theorem pl88:qC3 88 [(0,1),(1,3),(4,1)]:=fun _=>kr
theorem TR:qCv 121:=aH Tryz.func121 rfl kr
theorem JY:qC0 71 10 1 false (.str []):=dB (e:=9) kr kr kr kr _ rfl
theorem PO:qC0 71 4 1 false (.str []):=dB (e:=9) kr kr kr kr _ rfl
theorem PP:qC0 71 6 1 false (.str []):=dB (e:=9) kr kr kr kr _ rfl
theorem PN:qC0 71 3 1 false (.str []):=dB (e:=9) kr kr kr kr _ rfl
theorem pl24:qC3 24 [(0,1),(1,1),(2,1)]:=fun _=>kr
theorem PR:qC0 91 9 5 true (.agg [.str [],.int .i64 0,.int .i64 0,.bool false,.bool false]):=dB (e:=88) kr kr kr kr _ rfl
theorem TU:qCv 122:=aH Tryz.func122 rfl kr
theorem ca76:qCv 76:=aH Tryz.func76 rfl kr
theorem ca77:qCv 77:=aH Tryz.func77 rfl kr
theorem TV:qCv 124:=aH Tryz.func124 rfl kr
theorem MB (cs:List AV):nW Tryz.prog 146 (.agg cs) 0=AM.ofOpt (cN Tryz.prog 32 cs 0):=kr
theorem KQ:qCw 114 1 2:=fun a=>kr
theorem ra44:qC1 44:=cZ Ts.1 Ts.2.1
theorem re44:qC2 44:=cQ Ts.1 Ts.2.1
theorem TW:qCv 125:=aH Tryz.func125 rfl kr
theorem TZ:qCv 126:=aH Tryz.func126 rfl kr
theorem ra29:qC5 29 2:=iF HU.1 HU.2.1
theorem re29:qC4 29 2:=fD HU.1 HU.2.1
theorem QS:qCw 48 1 1:=fun a=>kr
theorem QT:qCw 48 2 2:=fun a=>kr
theorem ZD:qC3 112 [(0,1),(1,1)]:=fun _=>kr
theorem ZE:qC3 114 [(0,2),(2,1),(3,1),(4,1)]:=fun _=>kr
theorem ZC:qC3 107 [(0,1),(1,1)]:=fun _=>kr
theorem ZQ:qC5 107 2:=iF Cw.1 Cw.2.1
theorem qAD:qC4 107 2:=fD Cw.1 Cw.2.1
theorem YU (m v:AV)(s:List UInt8):fY Tryz.prog 109 m (.str s) v=sY m (.str s) v:=wV Tryz.underlying109 m _ v (mH Tryz.underlying9 s)
theorem ZH:qC3 158 [(0,1),(1,1),(2,1),(3,1),(4,1)]:=fun _=>kr
theorem EF:qC0 159 26 5 true (.agg [.str [],.int .i64 0,.int .i64 0,.bool false,.bool false]):=dB (e:=158) kr kr kr kr _ rfl
theorem YG (x:AV):pK Tryz.prog #[159] x=kR x:=mJ Tryz.underlying159 x
theorem WX (x i:AV):dU Tryz.prog 159 x i=rK 5 x i:=qN Tryz.underlying159 kr x i
theorem qAI:qC4 158 5:=fD Nq.1 Nq.2.1
theorem qAj:qCy 158 5:=dD Nq.2.1
theorem qAw:qCz 158 5:=cH Nq.2.1
theorem KY:qCw 158 0 0:=fun a=>kr
theorem UA:qCv 140:=aH Tryz.func140 rfl kr
theorem KZ:qCw 158 1 1:=fun a=>kr
theorem LA:qCw 158 2 2:=fun a=>kr
theorem LB:qCw 158 3 3:=fun a=>kr
theorem LC:qCw 158 4 4:=fun a=>kr
theorem ZF:qC3 120 [(0,3),(3,1)]:=fun _=>kr
theorem YV (m v:AV)(s:List UInt8):fY Tryz.prog 110 m (.str s) v=sY m (.str s) v:=wV Tryz.underlying110 m _ v (mH Tryz.underlying9 s)
theorem ca95:qCv 95:=aH Tryz.func95 rfl kr
theorem UB:qCv 141:=aH Tryz.func141 rfl kr
theorem UC:qCv 142:=aH Tryz.func142 rfl kr
theorem UD:qCv 143:=aH Tryz.func143 rfl kr
theorem RE (cs:List AV):nW Tryz.prog 48 (.agg cs) 1=AM.ofOpt (cN Tryz.prog 9 cs 1):=kr
theorem UE:qCv 144:=aH Tryz.func144 rfl kr
theorem UH:qCv 147:=aH Tryz.func147 rfl kr
theorem UG:qCv 146:=aH Tryz.func146 rfl kr
theorem UF:qCv 145:=aH Tryz.func145 rfl kr
theorem UI:qCv 148:=aH Tryz.func148 rfl kr
theorem UJ:qCv 149:=aH Tryz.func149 rfl kr
theorem wa9:qCy 9 1:=dD SV.2.1
theorem we9:qCz 9 1:=cH SV.2.1
theorem sc30 (x:AV)(lo hi mx:Option AV):lK Tryz.prog 30 x lo hi mx=oH 8 x lo hi mx:=wS Tryz.underlying30 kr x lo hi mx
theorem UK:qCv 160:=aH Tryz.func160 rfl kr
theorem UL:qCv 165:=aH Tryz.func165 rfl kr
theorem UM:qCv 185:=aH Tryz.func185 rfl kr
theorem PF:qC0 30 0 8 true (.agg [.int .i64 0,.int .i64 0,.str [],.bool false,.sl0,.sl0,.int .i64 0,.int .i64 0]):=dB (e:=32) kr kr kr kr _ rfl
theorem PQ:qC0 91 1 5 true (.agg [.str [],.int .i64 0,.int .i64 0,.bool false,.bool false]):=dB (e:=88) kr kr kr kr _ rfl
theorem JD (s x:AV):jH Tryz.prog #[91,91] s x=jN 5 48 s x:=kP (e:=88) (z:=.agg [.str [],.int .i64 0,.int .i64 0,.bool false,.bool false]) kr Tryz.underlying91 rfl kr kr kr rfl s x
theorem UO:qCv 202:=aH Tryz.func202 rfl kr
theorem UN:qCv 201:=aH Tryz.func201 rfl kr
theorem qAk:qCy 192 1:=dD Cz.2.1
theorem qAx:qCz 192 1:=cH Cz.2.1
theorem ZV:qC1 192:=cZ Cz.1 Cz.2.1
theorem qAJ:qC2 192:=cQ Cz.1 Cz.2.1
theorem LH:qCw 201 2 3:=fun a=>kr
theorem UP:qCv 203:=aH Tryz.func203 rfl kr
theorem qAn:qCy 205 2:=dD Dc.2.1
theorem qA0:qCz 205 2:=cH Dc.2.1
theorem LJ:qCw 205 0 0:=fun a=>kr
theorem LK:qCw 205 1 1:=fun a=>kr
theorem ra97:qC1 97:=cZ HV.1 HV.2.1
theorem re97:qC2 97:=cQ HV.1 HV.2.1
theorem UQ:qCv 204:=aH Tryz.func204 rfl kr
theorem KP:qCw 114 0 0:=fun a=>kr
theorem KN:qCw 112 0 0:=fun a=>kr
theorem ZR:qC1 109:=cZ No.1 No.2.1
theorem qAE:qC2 109:=cQ No.1 No.2.1
theorem ZL:qC3 209 [(0,1),(1,3),(4,1),(5,1)]:=fun _=>kr
theorem JS:qC0 206 1 6 true (.agg [.str [],.int .i64 0,.int .i64 0,.bool false,.sl0,.int .i64 0]):=dB (e:=209) kr kr kr kr _ rfl
theorem Xe (s x:AV):jH Tryz.prog #[206,206] s x=jN 6 72 s x:=kP (e:=209) (z:=.agg [.str [],.int .i64 0,.int .i64 0,.bool false,.sl0,.int .i64 0]) kr Tryz.underlying206 rfl kr kr kr rfl s x
theorem US:qCv 206:=aH Tryz.func206 rfl kr
theorem UR:qCv 205:=aH Tryz.func205 rfl kr
theorem qAi:qCy 146 10:=dD Cy.2.1
theorem qAv:qCz 146 10:=cH Cy.2.1
theorem KO:qCw 112 1 1:=fun a=>kr
theorem ZS:qC1 110:=cZ Np.1 Np.2.1
theorem qAF:qC2 110:=cQ Np.1 Np.2.1
theorem YH (x:AV):pK Tryz.prog #[206] x=kR x:=mJ Tryz.underlying206 x
theorem WY (x i:AV):dU Tryz.prog 206 x i=rK 6 x i:=qN Tryz.underlying206 kr x i
theorem qAA:qC5 209 6:=iF De.1 De.2.1
theorem qAO:qC4 209 6:=fD De.1 De.2.1
theorem qAp:qCy 209 6:=dD De.2.1
theorem qA2:qCz 209 6:=cH De.2.1
theorem UT:qCv 207:=aH Tryz.func207 rfl kr
theorem ZU:qC5 146 10:=iF Cy.1 Cy.2.1
theorem qAH:qC4 146 10:=fD Cy.1 Cy.2.1
theorem UU:qCv 208:=aH Tryz.func208 rfl kr
theorem qAT (x:AV)(lo hi mx:Option AV):lK Tryz.prog 206 x lo hi mx=oH 6 x lo hi mx:=wS Tryz.underlying206 kr x lo hi mx
theorem LN:qCw 209 1 1:=fun a=>kr
theorem LL:qCw 209 0 0:=fun a=>kr
theorem YS (x:AV):Bu Tryz.prog 107 x=.ret (.val (.iface 107 x)):=Vx Tryz.underlying107 (by intro _ h;cases h) x
theorem LO:qCw 209 2 4:=fun a=>kr
theorem ZZ:qC1 207:=cZ Dd.1 Dd.2.1
theorem qAN:qC2 207:=cQ Dd.1 Dd.2.1
theorem UV:qCv 209:=aH Tryz.func209 rfl kr
theorem JV:qC0 207 1 10 true (.agg [.int .i64 0,.int .i64 0,.str [],.bool false,.sl0,.sl0,.int .i64 0,.int .i64 0,.int .i64 0,.int .i64 0]):=dB (e:=146) kr kr kr kr _ rfl
theorem Xf (s x:AV):jH Tryz.prog #[207,207] s x=jN 10 120 s x:=kP (e:=146) (z:=.agg [.int .i64 0,.int .i64 0,.str [],.bool false,.sl0,.sl0,.int .i64 0,.int .i64 0,.int .i64 0,.int .i64 0]) kr Tryz.underlying207 rfl kr kr kr rfl s x
theorem qAo:qCy 207 1:=dD Dd.2.1
theorem qA1:qCz 207 1:=cH Dd.2.1
theorem UW:qCv 210:=aH Tryz.func210 rfl kr
theorem qAW (x:AV)(xt:TypeId)(ok:Bool):iA Tryz.prog x xt 107 ok=Df (some (.agg [.int .i64 0,.int .i64 0])) x 107 ok:=(Gt Tryz.underlying107 (by intro _ h;cases h) x xt ok).trans (by rw[show bK Tryz.prog 107=some (.agg [.int .i64 0,.int .i64 0]) from by kernel_rfl])
theorem ra5:qC1 5:=cZ ty5.1 ty5.2.1
theorem WR (x:AV):lD Tryz.prog 5 3 x=vM .i64 x:=Kt Tryz.underlying5 (by intro u h;cases h) Tryz.underlying3 x
theorem ms71 (l c:AV):kJ Tryz.prog 71 l c=Ie 1 16 false (.str []) l c:=Zx (e:=9) kr kr kr kr kr rfl l c
theorem RG (cs:List AV):nW Tryz.prog 48 (.agg cs) 3=AM.ofOpt (cN Tryz.prog 3 cs 4):=kr
theorem UX:qCv 228:=aH Tryz.func228 rfl kr
theorem RD (cs:List AV):nW Tryz.prog 48 (.agg cs) 0=AM.ofOpt (cN Tryz.prog 3 cs 0):=kr
theorem UY:qCv 229:=aH Tryz.func229 rfl kr
theorem UZ:qCv 232:=aH Tryz.func232 rfl kr
theorem VA:qCv 233:=aH Tryz.func233 rfl kr
theorem wa38:qCy 38 1:=dD Tr.2.1
theorem we38:qCz 38 1:=cH Tr.2.1
theorem VB:qCv 259:=aH Tryz.func259 rfl kr
theorem VC:qCv 262:=aH Tryz.func262 rfl kr
theorem ZI:qC3 198 [(0,1),(1,1)]:=fun _=>kr
theorem ZJ:qC3 201 [(0,2),(2,1),(3,1),(4,1)]:=fun _=>kr
theorem VD:qCv 272:=aH Tryz.func272 rfl kr
theorem LF:qCw 201 0 0:=fun a=>kr
theorem LE:qCw 198 1 1:=fun a=>kr
theorem VE:qCv 273:=aH Tryz.func273 rfl kr
theorem ZN:qC3 256 [(0,1),(1,1),(2,1)]:=fun _=>kr
theorem qAl:qCy 195 1:=dD Da.2.1
theorem qAy:qCz 195 1:=cH Da.2.1
theorem VF:qCv 274:=aH Tryz.func274 rfl kr
theorem ZW:qC1 195:=cZ Da.1 Da.2.1
theorem qAK:qC2 195:=cQ Da.1 Da.2.1
theorem LW:qCw 256 1 1:=fun a=>kr
theorem qAC:qC1 254:=cZ Ns.1 Ns.2.1
theorem qAQ:qC2 254:=cQ Ns.1 Ns.2.1
theorem YX (m v:AV)(s:List UInt8):fY Tryz.prog 254 m (.str s) v=sY m (.str s) v:=wV Tryz.underlying254 m _ v (mH Tryz.underlying9 s)
theorem LV:qCw 256 0 0:=fun a=>kr
theorem qAB:qC1 253:=cZ Nr.1 Nr.2.1
theorem qAP:qC2 253:=cQ Nr.1 Nr.2.1
theorem YW (m v:AV)(s:List UInt8):fY Tryz.prog 253 m (.str s) v=sY m (.str s) v:=wV Tryz.underlying253 m _ v (mH Tryz.underlying9 s)
theorem VG:qCv 275:=aH Tryz.func275 rfl kr
theorem VH:qCv 276:=aH Tryz.func276 rfl kr
theorem LX:qCw 256 2 2:=fun a=>kr
theorem KT:qCw 114 3 4:=fun a=>kr
theorem YI (x:AV):pK Tryz.prog #[207] x=kR x:=mJ Tryz.underlying207 x
theorem KV:qCw 146 0 0:=fun a=>kr
theorem KW:qCw 146 1 8:=fun a=>kr
theorem KX:qCw 146 2 9:=fun a=>kr
theorem ZG:qC3 146 [(0,8),(8,1),(9,1)]:=fun _=>kr
theorem VK:qCv 279:=aH Tryz.func279 rfl kr
theorem LP:qCw 209 3 5:=fun a=>kr
theorem WZ (x i:AV):dU Tryz.prog 207 x i=rK 10 x i:=qN Tryz.underlying207 kr x i
theorem JU:qC0 207 0 10 true (.agg [.int .i64 0,.int .i64 0,.str [],.bool false,.sl0,.sl0,.int .i64 0,.int .i64 0,.int .i64 0,.int .i64 0]):=dB (e:=146) kr kr kr kr _ rfl
theorem PE:qC0 27 1 1 false (.int .i64 0):=dB (e:=3) kr kr kr kr _ rfl
theorem JA (s x:AV):jH Tryz.prog #[27,27] s x=jN 1 8 s x:=kP (e:=3) (z:=.int .i64 0) kr Tryz.underlying27 rfl kr kr kr rfl s x
theorem VL:qCv 294:=aH Tryz.func294 rfl kr
theorem VM:qCv 295:=aH Tryz.func295 rfl kr
theorem YJ (x:AV):pK Tryz.prog #[277] x=kR x:=mJ Tryz.underlying277 x
theorem VN:qCv 308:=aH Tryz.func308 rfl kr
theorem qAX (x:AV)(xt:TypeId)(ok:Bool):iA Tryz.prog x xt 251 ok=Df (some (.agg [.int .i64 0,.int .i64 0])) x 251 ok:=(Gt Tryz.underlying251 (by intro _ h;cases h) x xt ok).trans (by rw[show bK Tryz.prog 251=some (.agg [.int .i64 0,.int .i64 0]) from by kernel_rfl])
theorem qAq:qCy 251 2:=dD HT.2.1
theorem qA3:qCz 251 2:=cH HT.2.1
theorem LQ:qCw 251 0 0:=fun a=>kr
theorem LU:qCw 251 1 1:=fun a=>kr
theorem LD:qCw 198 0 0:=fun a=>kr
theorem VO:qCv 312:=aH Tryz.func312 rfl kr
theorem VP:qCv 313:=aH Tryz.func313 rfl kr
theorem VQ:qCv 314:=aH Tryz.func314 rfl kr
theorem VS:qCv 316:=aH Tryz.func316 rfl kr
theorem LI:qCw 201 3 4:=fun a=>kr
theorem ZX:qC1 199:=cZ Db.1 Db.2.1
theorem qAL:qC2 199:=cQ Db.1 Db.2.1
theorem ZO:qC3 288 [(0,1),(1,1)]:=fun _=>kr
theorem JR:qC0 199 1 2 true (.agg [.int .i64 0,.int .i64 0]):=dB (e:=288) kr kr kr kr _ rfl
theorem Xd (s x:AV):jH Tryz.prog #[199,199] s x=jN 2 16 s x:=kP (e:=288) (z:=.agg [.int .i64 0,.int .i64 0]) kr Tryz.underlying199 rfl kr kr kr rfl s x
theorem qAm:qCy 199 1:=dD Db.2.1
theorem qAz:qCz 199 1:=cH Db.2.1
theorem VT:qCv 317:=aH Tryz.func317 rfl kr
theorem EG:qCv 318:=aH Tryz.func318 rfl kr
theorem VU:qCv 319:=aH Tryz.func319 rfl kr
theorem VV:qCv 320:=aH Tryz.func320 rfl kr
theorem VW:qCv 322:=aH Tryz.func322 rfl kr
theorem VZ:qCv 325:=aH Tryz.func325 rfl kr
theorem WA:qCv 328:=aH Tryz.func328 rfl kr
theorem ZK:qC3 205 [(0,1),(1,1)]:=fun _=>kr
theorem ZY:qC5 205 2:=iF Dc.1 Dc.2.1
theorem qAM:qC4 205 2:=fD Dc.1 Dc.2.1
theorem VJ:qCv 278:=aH Tryz.func278 rfl kr
theorem WC:qCv 330:=aH Tryz.func330 rfl kr
theorem YY (m v:AV)(s:List UInt8):fY Tryz.prog 296 m (.str s) v=sY m (.str s) v:=wV Tryz.underlying296 m _ v (mH Tryz.underlying9 s)
theorem YP (m:AV)(s:List UInt8)(ok:Bool):kH Tryz.prog 296 m (.str s) ok=oX (.fn0) m (.str s) ok:=sK Tryz.underlying296 kr m _ ok (mH Tryz.underlying9 s)
theorem JW:qC0 277 1 1 false (.bool false):=dB (e:=4) kr kr kr kr _ rfl
theorem Xg (s x:AV):jH Tryz.prog #[277,277] s x=jN 1 1 s x:=kP (e:=4) (z:=.bool false) kr Tryz.underlying277 rfl kr kr kr rfl s x
theorem WE:qCv 348:=aH Tryz.func348 rfl kr
theorem WF:qCv 353:=aH Tryz.func353 rfl kr
theorem WG:qCv 356:=aH Tryz.func356 rfl kr
theorem EH:qCv 357:=aH Tryz.func357 rfl kr
theorem EI:qCv 358:=aH Tryz.func358 rfl kr
theorem LG:qCw 201 1 2:=fun a=>kr
theorem YO (m:AV)(s:List UInt8)(ok:Bool):kH Tryz.prog 254 m (.str s) ok=oX (.bool false) m (.str s) ok:=sK Tryz.underlying254 kr m _ ok (mH Tryz.underlying9 s)
theorem WH:qCv 360:=aH Tryz.func360 rfl kr
theorem wa44:qCy 44 1:=dD Ts.2.1
theorem we44:qCz 44 1:=cH Ts.2.1
theorem YN (m:AV)(s:List UInt8)(ok:Bool):kH Tryz.prog 253 m (.str s) ok=oX (.str []) m (.str s) ok:=sK Tryz.underlying253 kr m _ ok (mH Tryz.underlying9 s)
theorem PV (x:AV):lD Tryz.prog 5 21 x=vM .i32 x:=Kt Tryz.underlying5 (by intro u h;cases h) Tryz.underlying21 x
theorem WJ:qCv 363:=aH Tryz.func363 rfl kr
theorem RH (cs:List AV):nW Tryz.prog 48 (.agg cs) 6=AM.ofOpt (cN Tryz.prog 3 cs 7):=kr
theorem wa27:qCy 27 1:=dD To.2.1
theorem we27:qCz 27 1:=cH To.2.1
theorem sc27 (x:AV)(lo hi mx:Option AV):lK Tryz.prog 27 x lo hi mx=oH 1 x lo hi mx:=wS Tryz.underlying27 kr x lo hi mx
theorem WK:qCv 364:=aH Tryz.func364 rfl kr
theorem WL:qCv 365:=aH Tryz.func365 rfl kr
theorem WM:qCv 366:=aH Tryz.func366 rfl kr
theorem ZP:qC3 319 [(0,1),(1,1)]:=fun _=>kr
theorem JX:qC0 320 2 2 true (.agg [.str [],.int .i64 0]):=dB (e:=319) kr kr kr kr _ rfl
theorem YK (x:AV):pK Tryz.prog #[320] x=kR x:=mJ Tryz.underlying320 x
theorem XA (x i:AV):dU Tryz.prog 320 x i=rK 2 x i:=qN Tryz.underlying320 kr x i
theorem qAR:qC4 319 2:=fD Nt.1 Nt.2.1
theorem qAr:qCy 319 2:=dD Nt.2.1
theorem qA4:qCz 319 2:=cH Nt.2.1
theorem LY:qCw 319 0 0:=fun a=>kr
theorem LZ:qCw 319 1 1:=fun a=>kr
theorem WN:qCv 368:=aH Tryz.func368 rfl kr
theorem WO:qCv 377:=aH Tryz.func377 rfl kr
theorem ZM:qC3 251 [(0,1),(1,1)]:=fun _=>kr
theorem YT (x:AV):Bu Tryz.prog 251 x=.ret (.val (.iface 251 x)):=Vx Tryz.underlying251 (by intro _ h;cases h) x
theorem WB:qCv 329:=aH Tryz.func329 rfl kr
theorem WQ:qCv 388:=aH Tryz.func388 rfl kr
theorem sc44 (x:AV)(lo hi mx:Option AV):lK Tryz.prog 44 x lo hi mx=oH 8 x lo hi mx:=wS Tryz.underlying44 kr x lo hi mx
theorem JZ:qC0 71 11 1 false (.str []):=dB (e:=9) kr kr kr kr _ rfl
attribute [go_sem] SU ty4 ty5 SV Tn To HU Tp Tq Tr Ts Tt Tu Tv HV Cw No Np qAZ qAa HS Cx Cy Nq Cz Da qAb Db qAc Dc Dd De HT Nr Ns qAd qAe Nt ca15 ca16 wa24 we24 ln9 ca17 wa32 we32 ra24 re24 ca18 ra32 re32 ca20 ca19 ca21 PG ca22 ca23 QG ra3 re3 ca24 PM sc9 ln44 ia44 QU PL pl48 PK JC ca39 JB ln30 ia30 QP QQ ln27 QO ra30 re30 QK ln71 ia71 ra9 re9 ca54 ia27 QM ca67 PI PH ca71 ca70 wa88 we88 QZ pl32 QF QH ra4 re4 ca72 ca74 ca73 ca78 ix9 wa48 we48 wa3 we3 QV QW QX ra48 re48 QR ca86 wa95 we95 ca87 qAf qAs KL ra38 re38 KM ra95 re95 KR ca92 YL ca93 YM qAg qAt KU MA TM QL QN QI QJ ra27 re27 TN TO qAh qAu ZT qAG TQ wa30 we30 ln91 ia91 QY ra88 re88 pl88 TR JY PO PP PN pl24 PR TU ca76 ca77 TV MB KQ ra44 re44 TW TZ ra29 re29 QS QT ZD ZE ZC ZQ qAD YU ZH EF YG WX qAI qAj qAw KY UA KZ LA LB LC ZF YV ca95 UB UC UD RE UE UH UG UF UI UJ wa9 we9 sc30 UK UL UM PF PQ JD UO UN qAk qAx ZV qAJ LH UP qAn qA0 LJ LK ra97 re97 UQ KP KN ZR qAE ZL JS Xe US UR qAi qAv KO ZS qAF YH WY qAA qAO qAp qA2 UT ZU qAH UU qAT LN LL YS LO ZZ qAN UV JV Xf qAo qA1 UW qAW ra5 WR ms71 RG UX RD UY UZ VA wa38 we38 VB VC ZI ZJ VD LF LE VE ZN qAl qAy VF ZW qAK LW qAC qAQ YX LV qAB qAP YW VG VH LX KT YI KV KW KX ZG VK LP WZ JU PE JA VL VM YJ VN qAX qAq qA3 LQ LU LD VO VP VQ VS LI ZX qAL ZO JR Xd qAm qAz VT EG VU VV VW VZ WA ZK ZY qAM VJ WC YY YP JW Xg WE WF WG EH EI LG YO WH wa44 we44 YN PV WJ RH wa27 we27 sc27 WK WL WM ZP JX YK XA qAR qAr qA4 LY LZ WN WO ZM YT WB WQ sc44 JZ
end Go.Proofs.Vt
namespace Go.Proofs.Pa
open Go.Ez Go.Proofs.Vt
structure Tok where
 kind:Int
 s:List UInt8
 neg:Bool
 d:AV
 at':Int
 en:Int
 line:Int
 col:Int
def Tok.cells (t:Tok):List AV:=[.int .i64 t.kind,.str t.s,.bool t.neg,t.d,.int .i64 t.at',.int .i64 t.en,.int .i64 t.line,.int .i64 t.col]
def Tok.av (t:Tok):AV:=.agg t.cells
def iH:Tok:=⟨0,[],false,.sl0,0,0,0,0⟩
structure oQ where
 lo:Int
 hi:Int
 left:Bool
 defn:Bool:=false
def pV : List (List UInt8 × oQ) :=
  [([126], ⟨4, 4, false, false⟩), ([83, 85, 66, 83, 69, 84], ⟨8, 8, false, false⟩), ([85, 78, 73, 79, 78], ⟨8, 8, false, false⟩), ([68, 79, 77, 65, 73, 78], ⟨9, 9, false, false⟩), ([45], ⟨12, 12, false, false⟩),
   ([69, 78, 65, 66, 76, 69, 68], ⟨4, 15, false, false⟩), ([85, 78, 67, 72, 65, 78, 71, 69, 68], ⟨4, 15, false, false⟩), ([91, 93], ⟨4, 15, false, false⟩), ([60, 62], ⟨4, 15, false, false⟩)]
def jI : List (List UInt8 × oQ) :=
  [([61, 62], ⟨1, 1, false, false⟩), ([60, 61, 62], ⟨2, 2, false, false⟩), ([126, 62], ⟨2, 2, false, false⟩), ([47, 92], ⟨3, 3, true, false⟩), ([92, 47], ⟨3, 3, true, false⟩),
   ([61], ⟨5, 5, false, false⟩), ([35], ⟨5, 5, false, false⟩), ([60], ⟨5, 5, false, false⟩), ([62], ⟨5, 5, false, false⟩), ([60, 61], ⟨5, 5, false, false⟩), ([62, 61], ⟨5, 5, false, false⟩),
   ([92, 105, 110], ⟨5, 5, false, false⟩), ([92, 110, 111, 116, 105, 110], ⟨5, 5, false, false⟩), ([92, 115, 117, 98, 115, 101, 116, 101, 113], ⟨5, 5, false, false⟩), ([92, 115, 117, 112, 115, 101, 116, 101, 113], ⟨5, 5, false, false⟩),
   ([92, 115, 113, 115, 117, 98, 115, 101, 116, 101, 113], ⟨5, 5, false, true⟩), ([92, 112, 114, 101, 99], ⟨5, 5, false, true⟩), ([92, 115, 117, 99, 99], ⟨5, 5, false, true⟩), ([92, 115, 105, 109], ⟨5, 5, false, true⟩),
   ([92, 99, 100, 111, 116], ⟨5, 14, true, false⟩), ([64, 64], ⟨6, 6, true, false⟩), ([58, 62], ⟨7, 7, false, false⟩), ([92, 99, 117, 112], ⟨8, 8, true, false⟩), ([92, 99, 97, 112], ⟨8, 8, true, false⟩), ([92], ⟨8, 8, false, false⟩),
   ([46, 46], ⟨9, 9, false, false⟩), ([46, 46, 46], ⟨9, 9, false, true⟩),
   ([36], ⟨9, 13, true, true⟩), ([36, 36], ⟨9, 13, true, true⟩), ([63, 63], ⟨9, 13, true, true⟩), ([35, 35], ⟨9, 13, true, true⟩), ([92, 115, 113, 99, 117, 112], ⟨9, 13, true, true⟩), ([92, 115, 113, 99, 97, 112], ⟨9, 13, true, true⟩),
   ([43], ⟨10, 10, true, false⟩), ([40, 43, 41], ⟨10, 10, true, true⟩), ([43, 43], ⟨10, 10, true, true⟩), ([37], ⟨10, 11, false, false⟩), ([37, 37], ⟨10, 11, true, true⟩), ([124], ⟨10, 11, true, true⟩), ([124, 124], ⟨10, 11, true, true⟩),
   ([92, 88], ⟨10, 13, false, false⟩), ([45], ⟨11, 11, true, false⟩), ([40, 45, 41], ⟨11, 11, true, true⟩), ([45, 45], ⟨11, 11, true, true⟩),
   ([42], ⟨13, 13, true, false⟩), ([92, 111], ⟨13, 13, true, false⟩), ([92, 100, 105, 118], ⟨13, 13, false, false⟩), ([47], ⟨13, 13, false, true⟩), ([47, 47], ⟨13, 13, false, true⟩),
   ([42, 42], ⟨13, 13, true, true⟩), ([40, 46, 41], ⟨13, 13, true, true⟩), ([38], ⟨13, 13, true, true⟩), ([38, 38], ⟨13, 13, true, true⟩), ([92, 115, 116, 97, 114], ⟨13, 13, true, true⟩), ([92, 98, 117, 108, 108, 101, 116], ⟨13, 13, true, true⟩),
   ([94], ⟨14, 14, false, false⟩), ([94, 94], ⟨14, 14, false, true⟩)]
def find (l:List (List UInt8×oQ))(s:List UInt8):Option oQ:=(l.find? fun q=>q.1==s).map (·.2)
def yD:List (AV×AV):=pV.map fun q=>(.str q.1,.agg [.int .i64 q.2.lo,.int .i64 q.2.hi,.bool q.2.left])
def Fy:List (AV×AV):=jI.map fun q=>(.str q.1,.agg [.int .i64 q.2.lo,.int .i64 q.2.hi,.bool q.2.left,.bool q.2.defn])
def IS (h:Hp)(pm im:Nat):Prop:=h.get pm=some (.map yD)/\h.get im=some (.map Fy)
theorem IS.stable {h h':Hp}{pm im:Nat}(T:IS h pm im)(k:∀ t x,h.get t=some (.map x)->h'.get t=some (.map x)):IS h' pm im:=⟨k _ _ T.1,k _ _ T.2⟩
structure PS where
 l:List Tok
 pos:Nat
 cols:List Int
def vD (h:Hp)(cv:AV)(cols:List Int):Prop:=
 (cv=.sl0/\cols=[])\/∃ oc xs,cv=.sl oc 0 cols.length/\h.get oc=some (.arr 1 xs)/\cols.length<=xs.length/\xs.take cols.length=cols.map (.int .i64 ·)
def zM (lv:AV)(l:List Tok):Prop:=(lv=.sl0/\l=[])\/∃ f,lv=.vec (l.map Tok.av) 8 f
structure eB (h:Hp)(o:Nat)(pm im:Nat)(lv cv:AV)(s:PS):Prop where
 obj:h.get o=some (.cells [.map pm,.map im,lv,.int .i64 s.pos,cv])
 toks:zM lv s.l
 cols:vD h cv s.cols
 len:s.l.length<1000000000
 flat:∀ t ∈ s.l,eE t.d=true/\AV.one t.d=true
 pos:s.pos<=s.l.length
 clen:s.cols.length<1000000000
 tabs:IS h pm im
def PS.open (s:PS)(i:Nat):Bool:=decide (i<s.l.length)&&(match s.cols.getLast? with | none=>true | some c=>decide (c<(s.l.getD i iH).col))
def PS.token (s:PS)(n:Nat):Tok:=if (List.range (n+1)).all (fun k=>s.open (s.pos+k)) then s.l.getD (s.pos+n) iH else iH
theorem aN {h:Hp}{n o:Nat}{x:aK}(hl:aE n h)(hx:h.get o=some x):o<n:=hl.lt_of_get hx
section
variable {Gl:qC6}{Gm:qC7}{Kp:qC8}
theorem HR (hg:Gm 204=none)(hk:Kp 204=(false,false)){o n pm im:Nat}{lv cv:AV}{h:Hp}{s:PS}(R:eB h o pm im lv cv s)(k:Nat)(hk2:k<1000000000){Q:aS->Nat->Hp->Prop}
  (hQ:∀ n' h',n<=n'->aE n' h'->(∀ t,t<n->h'.get t=h.get t)->Q (.returned (s.token k).av) n' h') :
  aG Tryz.prog Gl Gm Kp 204 [.ref o 0,.int .i64 k] n h (fun _=>False) Q:=by
 refine aG.mono (B:=fun _=>False) (Q:=fun e _ _=>e=.returned (s.token k).av) ?_ (fun _ _ h=>h) (fun e n' h' a b c d=>by subst d;exact hQ n' h' a b fun t ht=>c t ht id);refine aG.code 71 [.cell 4 48] Tryz.func204 rfl hg hk rfl rfl fun _ U=>?_;have hp:=R.obj;have ho:=aN U hp;have ac:=R.len;have ad:=R.pos;have a9:=R.clen;refine z1 hp ?_;refine qCQ (E0:=[(0,.ref o 0),(1,.int .i64 k),(4,.ref n 0),(5,.int .i64 s.pos)]) (fun m E n1 h1=>∃ i:Nat,i+m=s.pos+k+1/\s.pos<=i/\n1=n+1/\E=[(0,.ref o 0),(1,.int .i64 k),(4,.ref n 0),(5,.int .i64 i)]/\(∀ t,t<n->h1.get t=h.get t)/\h1.get n=some (.cells iH.cells)/\(∀ j,j<i-s.pos->s.open (s.pos+j)=true)) (k+1) ?_ ?_ ?_
 .exact sb
 .refine⟨s.pos,by omega,by omega,rfl,rfl,fun t ht=>?_,?_,?_⟩
  .exact zc
  .refine zz ?_
   rfl
  .intro j hj;omega
 .rintro m E n1 h1 hl hB ⟨i,hi,hi2,rfl,rfl,h2,h4,h5⟩;have h3:=h2 o ho;rw[hp]at h3;by_cases aa:(i:Int)<=s.pos+k
  .refine z2 h3 aa ?_;refine qCP [] [] kr ?_;simp only[iH,Tok.cells]at h4;have O:s.open i=false->s.token k=iH:=fun h=>by
    unfold PS.token;rw[if_neg];intro hc;have:=List.all_eq_true.1 hc (i-s.pos) (List.mem_range.2 om);rw[show s.pos+(i-s.pos)=i by omega,h]at this;cases this
   rcases R.toks with⟨rfl,U⟩ | ⟨f,rfl⟩
   .refine z2 h3 h4 ?_;refine qCI fun n' _ _=>?_;rw[O (by simp[PS.open,U])]
    rfl
   .by_cases ae:(i:Int) ≥ s.l.length
    .refine x2 h3 h4 ?_;refine qCI fun n' _ _=>?_;rw[O (by simp[PS.open];omega)]
     rfl
    .have Y:i<s.l.length:=om;have M:(List.map Tok.av s.l)[i]?=some (s.l.getD i iH).av:=(by simp[List.getD,Y]);rcases R.cols with⟨rfl,a4⟩ | ⟨oc,xs,rfl,hx,hxl,hxt⟩
     .refine x2 h3 h4 ?_;refine aU.mq (m-1) ⟨i+1,by omega,by omega,rfl,rfl,h2,h4,fun j hj=>?_⟩;by_cases a1:j<i-s.pos
      .exact h5 j a1
      .rw[show s.pos+j=i by omega];simp[PS.open,Y,a4]
     .have a3:=h2 oc (aN U hx);rw[hx]at a3;by_cases hz:s.cols.length=0
      .have a4:s.cols=[]:=List.length_eq_zero_iff.1 hz;refine x6 h3 h4 a3 M @Tok.av.eq_1 @Tok.cells.eq_1 ?_;refine aU.mq (m-1) ⟨i+1,by omega,by omega,rfl,rfl,h2,h4,fun j hj=>?_⟩;by_cases a1:j<i-s.pos
       .exact h5 j a1
       .rw[show s.pos+j=i by omega];simp[PS.open,Y,a4]
      .have a5:s.cols.getLast?=some (s.cols.getLast?.getD 0):=by
        cases hc:s.cols.getLast? with
        |none=>rw[List.getLast?_eq_none_iff]at hc;rw[hc]at hz;exact absurd rfl hz
        |some c=>rfl
       have a2:xs[s.cols.length-1]?=some (.int .i64 (s.cols.getLast?.getD 0)):=by
        have h6:(xs.take s.cols.length)[s.cols.length-1]?=xs[s.cols.length-1]?:=(by rw[List.getElem?_take];simp;omega);rw[<- h6,hxt,List.getElem?_map,<- List.getLast?_eq_getElem?,a5];rfl
       by_cases ab:(s.l.getD i iH).col<=s.cols.getLast?.getD 0
       .refine x7 h3 h4 a3 M @Tok.av.eq_1 @Tok.cells.eq_1 a2 ?_;refine qCI fun n' _ _=>?_;rw[O (by unfold PS.open;rw[a5];simp only[Y,decide_true,Bool.true_and];exact decide_eq_false om)]
        rfl
       .refine x7 h3 h4 a3 M @Tok.av.eq_1 @Tok.cells.eq_1 a2 ?_;refine aU.mq (m-1) ⟨i+1,by omega,by omega,rfl,rfl,h2,h4,fun j hj=>?_⟩;by_cases a1:j<i-s.pos
        .exact h5 j a1
        .rw[show s.pos+j=i by omega];unfold PS.open;rw[a5];simp only[Y,decide_true,Bool.true_and];exact decide_eq_true om
  .have ag:i=s.pos+k+1:=om;simp only[iH,Tok.cells]at h4;refine z1 h3 ?_;refine qCP [] [] kr ?_;rcases R.toks with⟨rfl,U⟩ | ⟨f,rfl⟩
   .exact absurd (h5 0 om) (by simp[PS.open,U])
   .have a8:=h5 k om;have a6:s.pos+k<s.l.length:=(by simp[PS.open]at a8;exact a8.1);have M:(List.map Tok.av s.l)[s.pos+k]?=some (s.l.getD (s.pos+k) iH).av:=(by simp[List.getD,a6]);obtain⟨_,a7⟩:=R.flat (s.l.getD (s.pos+k) iH) (by simp[List.getD,a6]);refine x6 h3 h4 M @Tok.av.eq_1 @Tok.cells.eq_1 a7 ?_;refine qCI fun n' _ _=>?_;have:s.token k=s.l.getD (s.pos+k) iH:=by
     unfold PS.token;rw[if_pos];refine List.all_eq_true.2 fun j hj=>h5 j ?_;have:=List.mem_range.1 hj;omega
    rw[this]
    rfl
def qBz:=@Tok.av.eq_1
def qB0:=@Tok.cells.eq_1
end
end Go.Proofs.Pa
namespace Go.Proofs.Pa
open Go.Ez
structure kY where
 err:Int
 at':Int
 deriving DecidableEq
def lT:kY:=⟨-1,0⟩
abbrev Jp (α:Type):=Except kY (α×PS)
inductive Node where
 |mk (kind n:Int) (s:List UInt8) (neg:Bool) (d:AV) (l:List Node) (at' en:Int)
def Node.kind:Node->Int | .mk k _ _ _ _ _ _ _=>k
def Node.s:Node->List UInt8 | .mk _ _ s _ _ _ _ _=>s
def Node.l:Node->List Node | .mk _ _ _ _ _ l _ _=>l
def Node.at':Node->Int | .mk _ _ _ _ _ _ a _=>a
def Node.en:Node->Int | .mk _ _ _ _ _ _ _ e=>e
def Node.setKind:Node->Int->Node | .mk _ n s g d l a e,k=>.mk k n s g d l a e
def Node.setN:Node->Int->Node | .mk k _ s g d l a e,n=>.mk k n s g d l a e
def Node.place:Node->Int->Int->Node | .mk k n s g d l _ _,a,e=>.mk k n s g d l a e
def nd (k:Int)(s:List UInt8)(l:List Node)(n:Int:=0):Node:=.mk k n s false .sl0 l 0 0
def P (α:Type):Type:=PS->Jp α
def P.pure {α:Type}(a:α):P α:=fun s=>.ok (a,s)
def P.bind {α β:Type}(x:P α)(f:α->P β):P β:=fun s=>match x s with
 |.ok (a,s')=>f a s'
 |.error e=>.error e
instance:Monad P where
 pure:=P.pure
 bind:=P.bind
def P.fail {α:Type}:P α:=fun s=>.error ⟨30,s.pos⟩
def P.prec {α:Type}:P α:=fun s=>.error ⟨31,s.pos⟩
def P.oof {α:Type}:P α:=fun _=>.error Pa.lT
def P.tok (k:Nat):P Tok:=fun s=>.ok (s.token k,s)
def PS.isSign (s:PS)(k:Nat)(w:List UInt8):Bool:=(decide ((s.token k).kind=5) || decide ((s.token k).kind=4))&&(s.token k).s==w
def PS.isKind (s:PS)(k:Nat)(c:Int):Bool:=decide ((s.token k).kind=c)
def P.is (k:Nat)(w:List UInt8):P Bool:=fun s=>.ok (s.isSign k w,s)
def P.kind (k:Nat)(c:Int):P Bool:=fun s=>.ok (s.isKind k c,s)
def P.begin:P Int:=fun s=>.ok ((s.token 0).at',s)
def P.step (n:Nat):P Unit:=fun s=>if s.pos+n<=s.l.length then .ok ((),{s with pos:=s.pos+n}) else .error Pa.lT
def P.back:P Unit:=fun s=>if s.pos=0 then .error Pa.lT else .ok ((),{s with pos:=s.pos-1})
def P.take (w:List UInt8):P Bool:=fun s=>if s.isSign 0 w then .ok (true,{s with pos:=s.pos+1}) else .ok (false,s)
def P.need (w:List UInt8):P Unit:=do
 if <- P.take w then P.pure () else P.fail
def P.takeKind (c:Int):P Tok:=do
 let t <- P.tok 0
 if t.kind=c then do P.step 1;P.pure t else P.fail
def P.last:P Int:=fun s=>if s.pos=0 then .error Pa.lT else .ok ((s.l.getD (s.pos-1) iH).en,s)
def P.done (n:Node)(from':Int):P Node:=do
 let e <- P.last
 P.pure (n.place from' e)
def P.more {α:Type}(one:P α):Nat->List α->P (List α)
 |0,_=>P.oof
 |f+1,l=>do
  if <- P.take [44] then do
   let x <- one
   P.more one f (l++[x])
  else P.pure l
def P.listed {α:Type}(f:Nat)(one:P α):P (List α):=do
 let x <- one
 P.more one f [x]
def P.name:P Node:=do
 let t <- P.takeKind 1
 P.done (nd 14 t.s []) t.at'
structure eD where
 n:Node
 fr:Int
 to:Int
structure eI where
 sign:List UInt8
 op:oQ
 left:List eD
 at':Int
def eI.tighter (w:eI)(s:List UInt8)(q:oQ):Bool:=decide (w.op.lo>q.hi) || (!w.left.isEmpty&&w.sign==s&&q.left)
def eI.applied (w:eI)(x:eD):eD:=
 let from':=match w.left with
  |[]=>w.at'
  |y::_=>y.fr
 let kind:Int:=if w.sign=[92,88] then 41 else if w.left.isEmpty then 20 else 21
 let s:=if w.sign=[92,88] then [] else w.sign
 ⟨.mk kind 0 s false .sl0 (w.left.map (·.n)++[x.n]) from' x.to,from',x.to⟩
def P.lastS:P (List UInt8):=fun s=>if s.pos=0 then .error Pa.lT else .ok ((s.l.getD (s.pos-1) iH).s,s)
def P.push (c:Int):P Unit:=fun s=>if s.cols.length+1<1000000000 then .ok ((),{s with cols:=s.cols++[c]}) else .error Pa.lT
def P.pop:P Unit:=fun s=>if s.cols.isEmpty then .error Pa.lT else .ok ((),{s with cols:=s.cols.dropLast})
def P.atEnd (n:Nat):P Bool:=fun s=>.ok (decide (s.l.length<=s.pos+n),s)
def P.fits (n:Nat):P Unit:=fun s=>if n<1000000 then .ok ((),s) else .error Pa.lT
def rF:Nat->List eI->P (List eI)
 |0,_=>P.oof
 |f+1,st=>do
  let t <- P.tok 0
  match find pV t.s with
  |some q=>
   if t.kind=5\/t.kind=4 then
    P.fits st.length
    P.step 1
    rF f (⟨t.s,q,[],t.at'⟩::st)
   else P.pure st
  |none=>P.pure st
def Sq (st:List eI)(t:Tok)(q:oQ)(x:eD):List eI:=match st with
 |w::r=>if w.sign=[92,88]/\t.s=[92,88] then {w with left:=w.left++[x]}::r else ⟨t.s,q,[x],t.at'⟩::w::r
 |[]=>[⟨t.s,q,[x],t.at'⟩]
def Jd (st:List eI):Nat:=match st with
 |w::_=>w.left.length
 |[]=>0
def eR (is:Bool)(sg:List UInt8)(q:oQ):List eI->eD->Option (List eI×eD)
 |[],x=>some ([],x)
 |w::st,x=>
  if !is || w.tighter sg q then eR is sg q st (w.applied x)
  else if w.op.hi<q.lo\/(w.sign=[92,88]/\sg=[92,88]) then some (w::st,x) else none
def iD (x:eD):Option Node:=
 match x.n with
 |.mk k _ s _ _ l a e=>
  if k=21/\s=[92,105,110]/\x.fr=a then
   match l with
   |[y,z]=>
    let (names,tup):=if y.kind=40 then (y.l,(1:Int)) else ([y],0)
    if names.isEmpty\/names.any (fun m=>decide (m.kind≠14)) then none
    else some (.mk 26 tup [] false .sl0 (names++[z]) a e)
   |_=>none
  else none
def pM (x:eD):Bool:=match x.n with
 |.mk k _ s _ _ l a _=>!(decide (k=21)&&s==[92,105,110]&&decide (x.fr=a)) || (decide (l.length=2)&&l.all fun y=>decide (y.l.length<1000000))
def eW:List Tok->Nat->Bool
 |[],_=>false
 |t::r,o=>
  if t.kind≠5 then eW r o
  else if t.s=[40]\/t.s=[91]\/t.s=[123]\/t.s=[60,60] then eW r (o+1)
  else if t.s=[41]\/t.s=[93]\/t.s=[93,95]\/t.s=[125]\/t.s=[62,62]\/t.s=[62,62,95] then (if o=1 then false else eW r (o-1))
  else if t.s=[124,45,62] then (if o=1 then true else eW r o)
  else eW r o
def P.maps:P Bool:=fun s=>.ok (eW (s.l.drop s.pos) 1,s)
def tP:List (List UInt8):=[[67,79,78,83,84,65,78,84],[67,79,78,83,84,65,78,84,83],[82,69,67,85,82,83,73,86,69],[86,65,82,73,65,66,76,69],[86,65,82,73,65,66,76,69,83],[65,83,83,85,77,69],[65,83,83,85,77,80,84,73,79,78],[65,88,73,79,77],[84,72,69,79,82,69,77],[76,79,67,65,76],[73,78,83,84,65,78,67,69]]
def P.ends (n:Nat)(subst:Bool):P Bool:=do
 if <- P.is n [44] then P.pure true
 else if <- (if subst then P.pure false else P.is n [41]) then P.pure true
 else if !subst then P.pure false
 else if <- P.atEnd n then P.pure true
 else
  let t <- P.tok n
  P.pure (decide (t.kind=1\/t.kind=6\/t.kind=7) || (decide (t.kind=4)&&tP.contains t.s))
def fS:Nat->List Node->P (List Node)
 |0,_=>P.oof
 |f+1,l=>do
  if <- P.take [33] then
   let x <- P.name
   fS f (l++[x])
  else P.pure l
def IL (f:Nat):P Node:=do
 let x <- P.name
 let l <- fS f [x]
 match l with
 |[y]=>P.pure y
 |l=>P.pure (nd 16 [] l)
def kW (f:Nat):P Node:=do
 let o <- P.name
 if <- P.take [40] then
  let l <- P.listed f (P.need [95])
  P.need [41]
  P.done ((o.setKind 12).setN l.length) o.at'
 else P.done (o.setKind 12) o.at'
mutual
def cS:Nat->P Node
 |0=>P.oof
 |f+1=>do
  let x <- gU f []
  P.pure x.n
def gU:Nat->List eI->P eD
 |0,_=>P.oof
 |f+1,st=>do
  let st <- rF f st
  let x <- lQ f
  let x <- iB f x st
  let t <- P.tok 0
  let q:=(find jI t.s).getD ⟨0,0,false,false⟩
  let is:=(find jI t.s).isSome&&decide (t.kind=5)
  match eR is t.s q st x with
  |none=>P.prec
  |some (st,x)=>
   if !is then P.pure x
   else
    P.step 1
    P.fits st.length
    P.fits (Jd st)
    gU f (Sq st t q x)
def iB:Nat->eD->List eI->P eD
 |0,_,_=>P.oof
 |f+1,x,st=>do
  if <- P.is 0 [39] then
   if (match st with | w::_=>w.left.isEmpty&&decide (w.op.hi ≥ 15) | []=>false) then P.prec
   else
    P.step 1
    let n <- P.done (nd 22 [] [x.n]) x.fr
    iB f ⟨n,x.fr,n.en⟩ st
  else if <- P.take [46] then
   let t <- P.takeKind 1
   let n <- P.done (nd 39 t.s [x.n]) x.fr
   iB f ⟨n,x.fr,n.en⟩ st
  else if <- P.take [91] then
   let l <- P.listed f (cS f)
   P.need [93]
   let n <- P.done (nd 38 [] (x.n::l)) x.fr
   iB f ⟨n,x.fr,n.en⟩ st
  else P.pure x
def lQ:Nat->P eD
 |0=>P.oof
 |f+1=>do
  let fr <- P.begin
  if <- P.take [40] then
   let n <- cS f
   P.need [41]
   let e <- P.last
   P.pure ⟨n,fr,e⟩
  else
   let n <- Gv f
   let n <- P.done n fr
   P.pure ⟨n,fr,n.en⟩
def Gv:Nat->P Node
 |0=>P.oof
 |f+1=>do
  let t <- P.tok 0
  if t.kind=1 then vB f
  else if t.kind=2 then do P.step 1;P.pure (.mk 17 0 [] t.neg t.d [] 0 0)
  else if t.kind=3 then do P.step 1;P.pure (nd 18 t.s [])
  else if t.kind=5\/t.kind=4 then
   if t.s=[47,92]\/t.s=[92,47] then oO f
   else if t.s=[92,65]\/t.s=[92,69] then kX f
   else if t.s=[67,72,79,79,83,69] then pD f
   else if t.s=[73,70] then mD f
   else if t.s=[67,65,83,69] then do P.step 1;mX f []
   else if t.s=[76,69,84] then do P.step 1;zL f []
   else if t.s=[123] then Oy f
   else if t.s=[60,60] then yJ f
   else if t.s=[91] then pF f
   else if t.s=[87,70,95]\/t.s=[83,70,95] then Gw f
   else if t.s=[84,82,85,69]\/t.s=[70,65,76,83,69]\/t.s=[66,79,79,76,69,65,78]\/t.s=[83,84,82,73,78,71]\/t.s=[64] then
    P.step 1
    let w <- P.lastS
    P.pure (nd 19 w [])
   else P.fail
  else P.fail
def oN:Nat->P Node
 |0=>P.oof
 |f+1=>do
  let n <- P.name
  if <- P.take [40] then
   let l <- P.listed f (kV f false)
   P.need [41]
   P.done (nd 15 n.s l) n.at'
  else P.pure n
def vB:Nat->P Node
 |0=>P.oof
 |f+1=>do
  let n <- oN f
  if <- P.is 0 [33] then
   let l <- rE f [n]
   P.pure (nd 16 [] l)
  else P.pure n
def rE:Nat->List Node->P (List Node)
 |0,_=>P.oof
 |f+1,l=>do
  if <- P.take [33] then
   let x <- oN f
   rE f (l++[x])
  else P.pure l
def kV:Nat->Bool->P Node
 |0,_=>P.oof
 |f+1,subst=>do
  let t <- P.tok 0
  if <- (if (find jI t.s).isSome/\t.kind=5/\t.s≠[92,88] then P.ends 1 subst else P.pure false) then
   P.step 1
   P.done (nd 50 t.s []) t.at'
  else if <- P.take [76,65,77,66,68,65] then
   let l <- P.listed f (do let n <- P.name;P.pure (n.setKind 12))
   P.need [58]
   let e <- cS f
   P.done (nd 49 [] (l++[e])) t.at'
  else cS f
def oO:Nat->P Node
 |0=>P.oof
 |f+1=>do
  let t <- P.tok 0
  let l <- nM f t []
  P.pure (nd 23 t.s l)
def nM:Nat->Tok->List Node->P (List Node)
 |0,_,_=>P.oof
 |f+1,t,l=>do
  if <- P.is 0 t.s then
   let u <- P.tok 0
   if u.col=t.col then
    P.step 1
    P.push t.col
    let e <- cS f
    P.pop
    nM f t (l++[e])
   else P.pure l
  else P.pure l
def nG:Nat->P Node
 |0=>P.oof
 |f+1=>do
  let fr <- P.begin
  if <- P.take [60,60] then
   let l <- P.listed f P.name
   P.need [62,62]
   P.need [92,105,110]
   let e <- cS f
   P.done (nd 26 [] (l++[e]) 1) fr
  else
   let l <- P.listed f P.name
   P.need [92,105,110]
   let e <- cS f
   P.done (nd 26 [] (l++[e])) fr
def kX:Nat->P Node
 |0=>P.oof
 |f+1=>do
  let t <- P.tok 0
  P.step 1
  let l <- P.listed f (nG f)
  P.need [58]
  let e <- cS f
  P.pure (nd 24 t.s (l++[e]))
def pD:Nat->P Node
 |0=>P.oof
 |f+1=>do
  P.step 1
  if <- P.kind 0 1 then
   if <- P.is 1 [92,105,110] then qA f
   else do P.step 1;P.fail
  else qA f
def qA:Nat->P Node
 |0=>P.oof
 |f+1=>do
  let b <- nG f
  P.need [58]
  let e <- cS f
  P.pure (nd 25 [] [b,e])
def mD:Nat->P Node
 |0=>P.oof
 |f+1=>do
  P.step 1
  let a <- cS f
  P.need [84,72,69,78]
  let b <- cS f
  P.need [69,76,83,69]
  let c <- cS f
  P.pure (nd 42 [] [a,b,c])
def mX:Nat->List Node->P Node
 |0,_=>P.oof
 |f+1,l=>do
  let fr <- P.begin
  if <- (if l.isEmpty then P.pure false else P.take [79,84,72,69,82]) then
   P.need [45,62]
   let e <- cS f
   let arm <- P.done (nd 44 [] [e] 1) fr
   P.pure (nd 43 [] (l++[arm]))
  else
   let c <- cS f
   P.need [45,62]
   let e <- cS f
   let arm <- P.done (nd 44 [] [c,e]) fr
   if <- P.take [91,93] then mX f (l++[arm]) else P.pure (nd 43 [] (l++[arm]))
def zL:Nat->List Node->P Node
 |0,_=>P.oof
 |f+1,l=>do
  if <- (if l.isEmpty then P.pure false else P.is 0 [73,78]) then
   P.step 1
   let e <- cS f
   P.pure (nd 45 [] (l++[e]))
  else
   let fr <- P.begin
   let d <- fH f fr 0 false
   zL f (l++[d])
def fH:Nat->Int->Int->Bool->P Node
 |0,_,_,_=>P.oof
 |f+1,fr,loc,unit=>do
  let t <- P.tok 1
  let first <- P.takeKind 1
  if t.kind=5/\((find jI t.s).getD ⟨0,0,false,false⟩).defn then
   P.back
   let a <- P.name
   P.step 1
   let b <- P.name
   Do f fr loc false 8 t.s [a.setKind 12,b.setKind 12]
  else if <- P.take [40] then
   let l <- P.listed f (kW f)
   P.need [41]
   Do f fr loc unit 8 first.s l
  else if <- P.take [91] then
   let l <- P.listed f (nG f)
   P.need [93]
   Do f fr loc false 9 first.s l
  else Do f fr loc unit 8 first.s []
def Do:Nat->Int->Int->Bool->Int->List UInt8->List Node->P Node
 |0,_,_,_,_,_,_=>P.oof
 |f+1,fr,loc,unit,k,s,l=>do
  P.need [61,61]
  let a <- P.begin
  if <- (if unit then P.take [73,78,83,84,65,78,67,69] else P.pure false) then
   let i <- jZ f a 0
   P.done (nd k s (l++[i]) loc) fr
  else
   let e <- cS f
   P.done (nd k s (l++[e]) loc) fr
def jZ:Nat->Int->Int->P Node
 |0,_,_=>P.oof
 |f+1,fr,loc=>do
  let t <- P.takeKind 1
  if <- P.take [87,73,84,72] then
   let l <- P.listed f (yL f)
   P.done (nd 10 t.s l loc) fr
  else P.done (nd 10 t.s [] loc) fr
def yL:Nat->P Node
 |0=>P.oof
 |f+1=>do
  let fr <- P.begin
  let t <- P.tok 0
  if t.kind=1\/(t.kind=5/\((find jI t.s).getD ⟨0,0,false,false⟩).defn) then
   P.step 1
   P.need [60,45]
   let a <- kV f true
   P.done (nd 11 t.s [a]) fr
  else P.fail
def Oy:Nat->P Node
 |0=>P.oof
 |f+1=>do
  P.step 1
  if <- P.take [125] then P.pure (nd 27 [] [])
  else
   let x <- gU f []
   let n <- (do
    if <- P.take [58] then
     if !pM x then P.oof
     else match iD x with
     |some b=>do
      let e <- cS f
      P.pure (nd 28 [] [b,e])
     |none=>do
      let l <- P.listed f (nG f)
      P.pure (nd 29 [] (x.n::l))
    else if <- P.take [44] then
     let l <- P.listed f (cS f)
     P.pure (nd 27 [] (x.n::l))
    else P.pure (nd 27 [] [x.n]))
   P.need [125]
   P.pure n
def tD:Nat->P Node
 |0=>P.oof
 |f+1=>do
  P.step 1
  if <- P.is 0 [62,62] then P.pure (nd 40 [] [])
  else
   let l <- P.listed f (cS f)
   P.pure (nd 40 [] l)
def yJ:Nat->P Node
 |0=>P.oof
 |f+1=>do
  let o <- tD f
  if <- (if o.l.length=1 then P.is 0 [62,62,95] else P.pure false) then
   P.step 1
   let s <- gL f
   P.pure (nd 47 [] (o.l++[s]))
  else
   P.need [62,62]
   P.pure o
def gL:Nat->P Node
 |0=>P.oof
 |f+1=>do
  let fr <- P.begin
  if <- P.kind 0 1 then
   let n <- IL f
   P.done n fr
  else if <- P.is 0 [60,60] then
   let o <- tD f
   P.need [62,62]
   P.done o fr
  else if <- P.take [40] then
   let e <- cS f
   P.need [41]
   P.pure e
  else P.fail
def Gw:Nat->P Node
 |0=>P.oof
 |f+1=>do
  let t <- P.tok 0
  P.step 1
  let s <- gL f
  P.need [40]
  let e <- cS f
  P.need [41]
  P.pure (nd 48 t.s [s,e])
def tC:Nat->List UInt8->P Node
 |0,_=>P.oof
 |f+1,w=>do
  let t <- P.takeKind 1
  P.need w
  let e <- cS f
  P.done (nd 34 t.s [e]) t.at'
def pF:Nat->P Node
 |0=>P.oof
 |f+1=>do
  P.step 1
  if <- (do if <- P.kind 0 1 then P.is 1 [124,45,62] else P.pure false) then
   let l <- P.listed f (tC f [124,45,62])
   P.need [93]
   P.pure (nd 32 [] l)
  else if <- (do if <- P.kind 0 1 then P.is 1 [58] else P.pure false) then
   let l <- P.listed f (tC f [58])
   P.need [93]
   P.pure (nd 33 [] l)
  else if <- P.maps then
   let l <- P.listed f (nG f)
   P.need [124,45,62]
   let e <- cS f
   P.need [93]
   P.pure (nd 30 [] (l++[e]))
  else
   let x <- cS f
   if <- P.take [45,62] then
    let y <- cS f
    P.need [93]
    P.pure (nd 31 [] [x,y])
   else if <- P.take [93,95] then
    let s <- gL f
    P.pure (nd 46 [] [x,s])
   else
    P.need [69,88,67,69,80,84]
    let l <- P.listed f (pG f)
    P.need [93]
    P.pure (nd 35 [] (x::l))
def pG:Nat->P Node
 |0=>P.oof
 |f+1=>do
  let fr <- P.begin
  P.need [33]
  let l <- Dq f []
  P.need [61]
  let e <- cS f
  P.done (nd 36 [] (l++[e])) fr
def Dq:Nat->List Node->P (List Node)
 |0,_=>P.oof
 |f+1,l=>do
  if <- (if l.isEmpty then P.pure false else P.is 0 [61]) then P.pure l
  else
   let a <- P.begin
   if <- P.take [46] then
    let t <- P.takeKind 1
    let st <- P.done (nd 37 t.s []) a
    Dq f (l++[st])
   else
    P.need [91]
    let m <- P.listed f (cS f)
    P.need [93]
    let st <- P.done (nd 37 [] m) a
    Dq f (l++[st])
end
def Node.setL:Node->List Node->Node | .mk k n s g d _ a e,l=>.mk k n s g d l a e
def tR (f:Nat):P Node:=do
 let o <- P.name
 if <- P.take [92,105,110] then
  let e <- cS f
  P.done ((o.setKind 13).setL [e]) o.at'
 else P.done (o.setKind 13) o.at'
def Dp (f:Nat)(k fr:Int):P Node:=do
 if <- (do if <- P.kind 0 1 then P.is 1 [61,61] else P.pure false) then
  let t <- P.tok 0
  P.step 2
  let e <- cS f
  P.done (nd k t.s [e]) fr
 else
  let e <- cS f
  P.done (nd k [] [e]) fr
def Oz (f:Nat):P Node:=do
 let fr <- P.begin
 if <- P.kind 0 1 then fH f fr 0 true
 else
  let t <- P.tok 0
  if t.kind=4 then
   P.step 1
   if t.s=[67,79,78,83,84,65,78,84]\/t.s=[67,79,78,83,84,65,78,84,83] then
    let l <- P.listed f (kW f)
    P.done (nd 3 [] l) fr
   else if t.s=[82,69,67,85,82,83,73,86,69] then
    let l <- P.listed f (kW f)
    P.done (nd 7 [] l) fr
   else if t.s=[86,65,82,73,65,66,76,69]\/t.s=[86,65,82,73,65,66,76,69,83] then
    let l <- P.listed f (tR f)
    P.done (nd 4 [] l) fr
   else if t.s=[65,83,83,85,77,69]\/t.s=[65,83,83,85,77,80,84,73,79,78]\/t.s=[65,88,73,79,77] then Dp f 5 fr
   else if t.s=[84,72,69,79,82,69,77] then Dp f 6 fr
   else if t.s=[73,78,83,84,65,78,67,69] then jZ f fr 0
   else if t.s=[76,79,67,65,76] then
    if <- P.take [73,78,83,84,65,78,67,69] then jZ f fr 1
    else fH f fr 1 true
   else
    P.back
    P.fail
  else P.fail
def vC:Nat->List Node->P (List Node)
 |0,_=>P.oof
 |f+1,l=>do
  if <- P.kind 0 7 then P.pure l
  else if <- P.kind 0 6 then
   P.step 1
   vC f l
  else
   let u <- Oz f
   vC f (l++[u])
def pE (f:Nat):P Node:=do
 let fr <- P.begin
 let _ <- P.takeKind 6
 P.need [77,79,68,85,76,69]
 let t <- P.takeKind 1
 let _ <- P.takeKind 6
 let a <- P.begin
 if <- P.take [69,88,84,69,78,68,83] then
  let l <- P.listed f P.name
  let x <- P.done (nd 2 [] l) a
  let l <- vC f [x]
  P.step 1
  P.done (nd 1 t.s l) fr
 else
  let l <- vC f []
  P.step 1
  P.done (nd 1 t.s l) fr
def P.end':P Unit:=do
 if <- P.atEnd 0 then P.pure () else P.fail
def gM (f:Nat):P (List Node):=do
 let n <- cS f
 P.end'
 P.pure [n]
def fZ (f:Nat):P (List Node):=do
 let n <- pE f
 P.end'
 P.pure [n]
def xB:Nat->List Node->P (List Node)
 |0,_=>P.oof
 |f+1,l=>do
  if <- P.atEnd 0 then P.pure l
  else
   let n <- pE f
   xB f (l++[n])
def qA5 (f:Nat):P (List Node):=do
 let n <- pE f
 xB f [n]
structure SS where
 pos:Nat
 out:List Tok
 com:Nat:=0
def LM (α:Type):Type:=SS->Except kY (α×SS)
def LM.pure {α:Type}(a:α):LM α:=fun s=>.ok (a,s)
def LM.bind {α β:Type}(x:LM α)(f:α->LM β):LM β:=fun s=>match x s with
 |.ok (a,s')=>f a s'
 |.error e=>.error e
instance:Monad LM where
 pure:=LM.pure
 bind:=LM.bind
def LM.fail {α:Type}(at' e:Int):LM α:=fun _=>.error ⟨e,at'⟩
def LM.oof {α:Type}:LM α:=fun _=>.error Pa.lT
def LM.pos:LM Nat:=fun s=>.ok (s.pos,s)
def LM.skip (n:Nat):LM Unit:=fun s=>.ok ((),{s with pos:=s.pos+n})
def LM.note:LM Unit:=fun s=>if s.com<1000000000 then .ok ((),{s with com:=s.com+1}) else .error Pa.lT
def LM.put (t:Tok)(n:Nat):LM Unit:=fun s=>.ok ((),{s with pos:=s.pos+n,out:=s.out++[{t with at':=s.pos,en:=(s.pos+n:Nat)}]})
def cW (b:UInt8):Bool:=(decide (65<=b.toNat)&&decide (b.toNat<=90)) || (decide (97<=b.toNat)&&decide (b.toNat<=122))
def gI (b:UInt8):Bool:=decide (48<=b.toNat)&&decide (b.toNat<=57)
def jC (b:UInt8):Bool:=cW b || gI b || decide (b.toNat=95)
def vY (b:UInt8):Bool:=decide (b.toNat=32) || decide (b.toNat=9) || decide (b.toNat=10) || decide (b.toNat=13)
def bG (w:List UInt8)(i:Nat):UInt8:=w.getD i 0
def jE (w:List UInt8)(i:Nat)(p:List UInt8):Bool:=p.isPrefixOf (w.drop i)
def dA (w:List UInt8)(i:Nat)(q:UInt8->Bool):Nat:=((w.drop i).takeWhile q).length
def Wo:List (List UInt8):=[[40],[41],[91],[93],[123],[125],[60,60],[62,62],[93,95],[62,62,95],[44],[58],[59],[46],[95],[33],[64],[39],[61,61],[124,45,62],[45,62],[60,45],[58,61],[46,46],[46,46,46],[124],[124,45],[45,124],[61,62],[61],[35],[60],[62],[43],[45],[42],[47],[37],[94],[92,100,105,118],[64,64],[58,62],[92],[92,105,110],[92,110,111,116,105,110],[92,115,117,98,115,101,116,101,113],[92,115,117,112,115,101,116,101,113],[92,65],[92,69],[92,65,65],[92,69,69],[91,93],[60,62],[126,62],[92,99,100,111,116],[92,115,113,115,117,98,115,101,116,101,113],[92,115,113,99,117,112],[92,115,113,99,97,112],[92,112,114,101,99],[92,115,117,99,99],[92,115,105,109],[92,115,116,97,114],[92,98,117,108,108,101,116],[43,43],[45,45],[42,42],[47,47],[124,124],[38],[38,38],[36],[36,36],[63,63],[37,37],[35,35],[94,94]]
def HH:List (List (List UInt8)):=[[[47,92],[92,108,97,110,100]],[[92,47],[92,108,111,114]],[[126],[92,108,110,111,116],[92,110,101,103]],[[60,61,62],[92,101,113,117,105,118]],[[35],[47,61]],[[60,61],[61,60],[92,108,101,113]],[[62,61],[92,103,101,113]],[[92,99,117,112],[92,117,110,105,111,110]],[[92,99,97,112],[92,105,110,116,101,114,115,101,99,116]],[[92,88],[92,116,105,109,101,115]],[[92,111],[92,99,105,114,99]],[[40,43,41],[92,111,112,108,117,115]],[[40,45,41],[92,111,109,105,110,117,115]],[[40,46,41],[92,111,100,111,116]]]
def lH:List (List UInt8):=[[65,83,83,85,77,69],[65,83,83,85,77,80,84,73,79,78],[65,88,73,79,77],[66,79,79,76,69,65,78],[67,65,83,69],[67,72,79,79,83,69],[67,79,78,83,84,65,78,84],[67,79,78,83,84,65,78,84,83],[68,79,77,65,73,78],[69,76,83,69],[69,78,65,66,76,69,68],[69,88,67,69,80,84],[69,88,84,69,78,68,83],[70,65,76,83,69],[73,70],[73,78],[73,78,83,84,65,78,67,69],[76,65,77,66,68,65],[76,69,84],[76,79,67,65,76],[77,79,68,85,76,69],[79,84,72,69,82],[82,69,67,85,82,83,73,86,69],[83,70,95],[83,84,82,73,78,71],[83,85,66,83,69,84],[84,72,69,78],[84,72,69,79,82,69,77],[84,82,85,69],[85,78,67,72,65,78,71,69,68],[85,78,73,79,78],[86,65,82,73,65,66,76,69],[86,65,82,73,65,66,76,69,83],[87,70,95],[87,73,84,72]]
def uJ:List (List UInt8×List UInt8):=Wo.map (fun s=>(s,s))++(HH.flatMap fun l=>match l with
 |[]=>[]
 |x::r=>(if Wo.contains x then [] else [(x,x)])++r.map fun s=>(s,x))
def Bv:Nat:=3
def mF (s:List UInt8):Option (List UInt8):=(uJ.find? fun q=>q.1==s).map (·.2)
def tF (s:List UInt8):Bool:=lH.contains s
def uH (w:List UInt8):Bool:=w.all fun b=>decide (b.toNat<128)
def lM (k:Int)(s:List UInt8):Tok:=⟨k,s,false,.sl0,0,0,0,0⟩
def mI (w:List UInt8):Nat->Nat->Nat->LM Unit
 |0,_,_=>LM.oof
 |f+1,from',deep=>do
  let p <- LM.pos
  if jE w p [40,42] then
   LM.skip 2
   mI w f from' (deep+1)
  else if jE w p [42,41] then
   LM.skip 2
   if deep=1 then LM.pure () else mI w f from' (deep-1)
  else if w.length<=p then LM.fail from' 22
  else
   LM.skip 1
   mI w f from' deep
def rL (w:List UInt8):Nat->LM Unit
 |0=>LM.oof
 |f+1=>do
  let p <- LM.pos
  if p<w.length then
   if vY (bG w p) then
    LM.skip 1
    rL w f
   else if jE w p [92,42] then
    LM.skip (dA w p fun b=>decide (b.toNat≠10))
    LM.note
    rL w f
   else if jE w p [40,42] then
    mI w f p 0
    LM.note
    rL w f
   else LM.pure ()
  else LM.pure ()
def Ls (w:List UInt8):LM Unit:=do
 let p <- LM.pos
 let n:=dA w p jC
 let s:=(w.drop p).take n
 if dA w p gI=n then LM.oof
 else if ([87,70,95]).isPrefixOf s || ([83,70,95]).isPrefixOf s then LM.put (lM 4 (s.take 3)) 3
 else if s=[95] then LM.put (lM 5 s) n
 else if tF s then LM.put (lM 4 s) n
 else if !s.any cW then LM.fail p 20
 else if 40<n then LM.fail p 24
 else LM.put (lM 1 s) n
def fV (w:List UInt8):Nat->LM Unit
 |0=>do
  let p <- LM.pos
  LM.fail p 20
 |n+1=>do
  let p <- LM.pos
  let s:=(w.drop p).take (n+1)
  match mF s with
  |some c=>if s.any cW then fV w n else LM.put (lM 5 c) (n+1)
  |none=>fV w n
def yW (w:List UInt8):LM Unit:=do
 let p <- LM.pos
 if bG w p=92 then
  let n:=1+dA w (p+1) cW
  match mF ((w.drop p).take n) with
  |some c=>if 1<n then LM.put (lM 5 c) n else fV w (min Bv (w.length-p))
  |none=>fV w (min Bv (w.length-p))
 else fV w (min Bv (w.length-p))
def qO (w:List UInt8)(p:Nat):Bool:=
 decide (bG w p=92)&&[98,66,111,79,104,72].contains (bG w (p+1))&&(gI (bG w (p+2)) || ([104,72].contains (bG w (p+1))&&((decide (97<=(bG w (p+2)).toNat)&&decide ((bG w (p+2)).toNat<=102)) || (decide (65<=(bG w (p+2)).toNat)&&decide ((bG w (p+2)).toNat<=70)))))
def sJ (w:List UInt8):LM Unit:=do
 let p <- LM.pos
 let b:=bG w p
 if jC b then Ls w
 else if qO w p then LM.oof
 else if b=34 then LM.oof
 else if jE w p [45,45,45,45] then LM.put (lM 6 []) (dA w p fun b=>decide (b.toNat=45))
 else if jE w p [61,61,61,61] then LM.put (lM 7 []) (dA w p fun b=>decide (b.toNat=61))
 else yW w
def qQ (w:List UInt8):Nat->LM Unit
 |0=>LM.oof
 |f+1=>do
  let p <- LM.pos
  if p<w.length then
   sJ w
   rL w f
   qQ w f
  else LM.pure ()
def wA (w:List UInt8)(f:Nat):LM Unit:=do
 rL w f
 qQ w f
def hH (p:Int×Int)(b:UInt8):Int×Int:=
 if b.toNat=10 then (p.1+1,1) else if b.toNat=9 then (p.1,(p.2-1) / 8*8+8+1) else (p.1,p.2+1)
def oC:List UInt8->Nat->Int×Int->List Tok->List Tok
 |_,_,_,[]=>[]
 |[],i,p,t::r=>(if t.at'=i then {t with line:=p.1,col:=p.2} else t)::r
 |b::w,i,p,t::r=>if t.at'=i then {t with line:=p.1,col:=p.2}::oC w (i+1) (hH p b) r else oC w (i+1) (hH p b) (t::r)
def lI (w:List UInt8):Except kY (List Tok):=
 if 100000<w.length then .error ⟨2,0⟩
 else match wA w (w.length+2) ⟨0,[],0⟩ with
 |.error e=>.error e
 |.ok (_,s)=>if 20000<s.out.length then .error ⟨2,0⟩ else .ok (oC w 0 (1,1) s.out)
end Go.Proofs.Pa
namespace Go.Proofs.Pa
open Go.Ez Go.Proofs.Vt
def iY (f:kY):AV:=.iface 107 (.agg [.int .i64 f.err,.int .i64 f.at'])
def Own (o:Nat)(cv:AV)(t:Nat):Prop:=t=o\/∃ k,cv=.sl t 0 k
structure jL (n:Nat)(h:Hp)(o pm im:Nat)(lv cv:AV)(s':PS)(n':Nat)(h':Hp)(cv':AV):Prop where
 le:n<=n'
 lt:aE n' h'
 rep:eB h' o pm im lv cv' s'
 keep:∀ t,t<n->¬Own o cv t->h'.get t=h.get t
 own:∀ t,Own o cv' t->Own o cv t\/n<=t
theorem vD.stable {h h':Hp}{n:Nat}{cv:AV}{cols:List Int}(R:vD h cv cols)(hl:aE n h)(hs:∀ t,t<n->(∃ k,cv=.sl t 0 k)->h'.get t=h.get t):vD h' cv cols:=by
 rcases R with R | ⟨oc,xs,rfl,hx,h1,h2⟩
 .exact .inl R
 .exact .inr ⟨oc,xs,rfl,(hs oc (aN hl hx) ⟨_,rfl⟩).trans hx,h1,h2⟩
theorem eB.stable {h h':Hp}{n o pm im:Nat}{lv cv:AV}{s:PS}(R:eB h o pm im lv cv s)(hl:aE n h)(hs:∀ t,t<n->h'.get t=h.get t):eB h' o pm im lv cv s:=
 ⟨(hs o (aN hl R.obj)).trans R.obj,R.toks,R.cols.stable hl fun t M _=>hs t M,R.len,R.flat,R.pos,R.clen,R.tabs.stable fun t x e=>(hs t (aN hl e)).trans e⟩
theorem eB.other {h:Hp}{o pm im:Nat}{lv cv:AV}{s:PS}(R:eB h o pm im lv cv s){a:Nat}{cs:List AV}(ha:h.get a=some (.cells cs))(hne:a≠o):¬Own o cv a:=by
 rintro (h1 | ⟨k,rfl⟩)
 .exact hne h1
 .rcases R.cols with⟨h1,_⟩ | ⟨oc,xs,h1,h2,_⟩
  .cases h1
  .cases h1;rw[ha]at h2;cases h2
theorem eB.put {h:Hp}{o pm im:Nat}{lv cv:AV}{s:PS}(R:eB h o pm im lv cv s){p:Nat}(hp:p<=s.l.length):eB (h.put o (.cells [.map pm,.map im,lv,.int .i64 p,cv])) o pm im lv cv {s with pos:=p}:=by
 refine⟨by rw[qCf,if_pos rfl],R.toks,?_,R.len,R.flat,hp,R.clen,R.tabs.stable fun t x e=>by
  rw[qCf,if_neg]
  .exact e
  .rintro rfl;rw[R.obj]at e;cases e⟩
 rcases R.cols with R' | ⟨oc,xs,h1,hx,h2⟩
 .exact .inl R'
 .refine .inr ⟨oc,xs,h1,?_,h2⟩;rw[qCf,if_neg]
  .exact hx
  .rintro rfl;rw[R.obj]at hx;cases hx
section
variable (Gl:qC6)(Gm:qC7)(Kp:qC8)
def Reads (f:FuncId)(args:List AV)(o pm im:Nat)(lv:AV)(g:PS->AV):Prop:=
 ∀ n h cv s,eB h o pm im lv cv s->∀ Q:aS->Nat->Hp->Prop,(∀ n' h',n<=n'->aE n' h'->(∀ t,t<n->h'.get t=h.get t)->Q (.returned (g s)) n' h')->aG Tryz.prog Gl Gm Kp f args n h (fun _=>False) Q
def aL {α:Type}(f:FuncId)(args:List AV)(o pm im:Nat)(lv:AV)(m:P α)(En:α->AV->Prop):Prop:=
 ∀ n h cv s,eB h o pm im lv cv s->m s≠.error lT->∀ Q:aS->Nat->Hp->Prop,(∀ a s',m s=.ok (a,s')->∀ v n' h' cv',En a v->jL n h o pm im lv cv s' n' h' cv'->Q (.returned v) n' h')->
  (∀ e,m s=.error e->∀ n' h',n<=n'->aE n' h'->(∀ t,t<n->¬Own o cv t->h'.get t=h.get t)->Q (.panicked (iY e)) n' h')->
  aG Tryz.prog Gl Gm Kp f args n h (Own o cv) Q
end
structure Seat (Gm:qC7)(Kp:qC8):Prop where
 gm:∀ f,f ∉ [202,210]->Gm f=none
 kp:∀ f,f ∉ [146,295,209,120]->f ∉ [121]->Kp f=(false,false)
section
variable {Gl:qC6}{Gm:qC7}{Kp:qC8}(S:Seat Gm Kp)
theorem qB6 {f:FuncId}{fn:Func}{c:Code}{args:List AV}{n:Nat}{h:Hp}{B:Nat->Prop}{Q:aS->Nat->Hp->Prop}(S:Seat Gm Kp)(L:Nat)(rs:List ResultVar)(hf:Tryz.prog.funcs[f]?=some fn)
  (w:(∀ t,n<=t->(n<=t\/B t))->aE n h->dN Tryz.prog Gl Gm Kp ⟨L,[],none⟩ (fun t=>n<=t\/B t) c (gS Tryz.prog Gl rs false (fun t=>n<=t\/B t) Q) (nT 0 args) n h)
  (hb:fn.body=some c:=by rfl) (h1:f ∉ [202,210]:=by decide) (h2:f ∉ [146,295,209,120]:=by decide) (h3:f ∉ [121]:=by decide) (hL:args.length+(fn.ntmps-args.length)=L:=by rfl) (hr:fn.results.toList=rs:=by rfl):aG Tryz.prog Gl Gm Kp f args n h B Q:=
 aG.code L rs hf hb (S.gm _ h1) (S.kp _ h2 h3) hL hr w
include S
theorem gO {o pm im:Nat}{lv:AV}(k:Nat)(hk:k<1000000000):Reads Gl Gm Kp 204 [.ref o 0,.int .i64 k] o pm im lv fun s=>(s.token k).av:=
 fun _ _ _ _ R _ M=>HR (S.gm _ dc) (S.kp _ dc dc) R k hk M
omit S in
theorem Reads.fin {f:FuncId}{args:List AV}{o pm im:Nat}{lv:AV}{g:PS->AV}(w:∀ n h cv s,eB h o pm im lv cv s->aE n h->aG Tryz.prog Gl Gm Kp f args n h (fun _=>False) fun e _ _=>e=.returned (g s)):Reads Gl Gm Kp f args o pm im lv g:=
 fun n h cv s R Q O=>⟨fun M=>((w n h cv s R M).mono (fun _ _ h=>h) fun e n' h' a b c d=>by subst d;exact O n' h' a b fun t U=>c t U id).ok M⟩
omit S in
theorem eF {h:Hp}{o pm im:Nat}{lv cv:AV}{s:PS}(R:eB h o pm im lv cv s)(k:Nat):eE (s.token k).d=true/\AV.one (s.token k).d=true:=by
 unfold PS.token;split
 .rename_i hc;have:=List.all_eq_true.1 hc k (List.mem_range.2 om);have M:s.pos+k<s.l.length:=(by simp[PS.open]at this;exact this.1);exact R.flat _ (by simp[List.getD,M])
 .exact⟨rfl,rfl⟩
theorem oB {o pm im:Nat}{lv:AV}(k:Nat)(hk:k<1000000000)(c:Int):Reads Gl Gm Kp 148 [.ref o 0,.int .i64 k,.int .i64 c] o pm im lv fun s=>.bool (s.isKind k c):=by
 refine Reads.fin fun n h cv s R _=>qB6 S 13 [.tmp 6] Tryz.func148 fun _ _=>?_;refine zz ?_;refine qCK ((gO S k hk _ _ _ _ R _ fun n1 h1 l1 _ k1=>?_).mono (fun _ _ h=>h.elim) fun _ _ _ _ _ _ h=>h);refine z2 @qBz @qB0 ?_;exact qCI fun n' _ _=>rfl
theorem sI {o pm im:Nat}{lv:AV}(k:Nat)(hk:k<1000000000)(w:List UInt8):Reads Gl Gm Kp 228 [.ref o 0,.int .i64 k,.str w] o pm im lv fun s=>.bool (s.isSign k w):=by
 refine Reads.fin fun n h cv s R _=>qB6 S 25 [.tmp 6] Tryz.func228 fun _ _=>?_;refine zz ?_;refine qCK ((gO S k hk _ _ _ _ R _ fun n1 h1 l1 _ k1=>?_).mono (fun _ _ h=>h.elim) fun _ _ _ _ _ _ h=>h);obtain⟨_,M⟩:=eF R k;by_cases U:(s.token k).kind=5
 .refine z3 @qBz @qB0 M ?_;refine qCI fun n' _ _=>?_;simp[PS.isSign,U]
 .by_cases O:(s.token k).kind=4
  .refine z3 @qBz @qB0 M ?_;refine qCI fun n' _ _=>?_;simp[PS.isSign,O]
  .refine z3 @qBz @qB0 M ?_;refine qCI fun n' _ _=>?_;simp[PS.isSign,O,U]
theorem iK {o pm im:Nat}{lv:AV}:Reads Gl Gm Kp 141 [.ref o 0] o pm im lv fun s=>.int .i64 (s.token 0).at':=by
 refine Reads.fin fun n h cv s R _=>qB6 S 6 [.tmp 2] Tryz.func141 fun _ _=>?_;refine zz ?_;refine qCK ((gO S 0 dc _ _ _ _ R _ fun n1 h1 l1 _ k1=>?_).mono (fun _ _ h=>h.elim) fun _ _ _ _ _ _ h=>h);refine z2 @qBz @qB0 ?_;exact qCI fun n' _ _=>rfl
omit S in
theorem aQ {o:Nat}{cv:AV}:Own o cv o=True:=eq_true (.inl rfl)
omit S in
theorem PS.tok_lt {s:PS}(h:(s.token 0).kind≠0):s.pos<s.l.length:=by
 unfold PS.token at h;split at h
 .rename_i hc;have:=List.all_eq_true.1 hc 0 sm;simp[PS.open]at this;exact this.1
 .exact absurd rfl h
omit S in
theorem PS.sign_lt {s:PS}{w:List UInt8}(h:s.isSign 0 w=true):s.pos<s.l.length:=PS.tok_lt (s:=s) (by
 intro M;simp[PS.isSign,M]at h)
def MH (b:Bool)(v:AV):Prop:=v=.bool b
def IQ (_:Unit)(v:AV):Prop:=True
def OR (t:Tok)(v:AV):Prop:=v=t.av/\eE t.d=true/\AV.one t.d=true
omit S in
theorem aL.use {α:Type}{f:FuncId}{args:List AV}{o pm im:Nat}{lv:AV}{m:P α}{En:α->AV->Prop}(M:aL Gl Gm Kp f args o pm im lv m En){n:Nat}{h:Hp}{cv:AV}{s:PS}(R:eB h o pm im lv cv s){B:Nat->Prop}
  (hB:∀ t,t<n->Own o cv t->B t) {Q:aS->Nat->Hp->Prop} (ho:m s≠.error lT)
  (h1:∀ a s',m s=.ok (a,s')->∀ v n' h' cv',En a v->jL n h o pm im lv cv s' n' h' cv'->Q (.returned v) n' h')
  (h2:∀ e,m s=.error e->∀ n' h',n<=n'->aE n' h'->(∀ t,t<n->¬Own o cv t->h'.get t=h.get t)->Q (.panicked (iY e)) n' h'):aG Tryz.prog Gl Gm Kp f args n h B Q:=
 (M n h cv s R ho Q h1 h2).mono hB fun _ _ _ _ _ _ h=>h
def Ends {α:Type}(o pm im:Nat)(lv cv:AV)(n:Nat)(En:α->AV->Prop)(r:Jp α)(e:aS)(h':Hp):Prop:=
 match r with
 |.ok (a,s')=>∃ v cv',e=.returned v/\En a v/\eB h' o pm im lv cv' s'/\∀ t,Own o cv' t->Own o cv t\/n<=t
 |.error f=>e=.panicked (iY f)
omit S in
theorem aL.fin {α:Type}{f:FuncId}{args:List AV}{o pm im:Nat}{lv:AV}{m:P α}{En:α->AV->Prop}
  (w:∀ n h cv s,eB h o pm im lv cv s->aE n h->m s≠.error lT->aG Tryz.prog Gl Gm Kp f args n h (Own o cv) fun e _ h'=>Ends o pm im lv cv n En (m s) e h'):aL Gl Gm Kp f args o pm im lv m En:=by
 intro n h cv s R ho Q h1 h2;refine⟨fun M=>?_⟩;refine((w n h cv s R M ho).mono (fun _ _ h=>h) fun e n' h' a b c d=>?_).ok M;unfold Ends at d;cases hr:m s with
 |ok q=>
  obtain⟨x,s'⟩:=q;rw[hr]at d;obtain⟨v,cv',rfl,O,U,Y⟩:=d;exact h1 x s' hr v n' h' cv' O ⟨a,b,U,c,Y⟩
 |error f=>rw[hr]at d;subst d;exact h2 f hr n' h' a b c
omit S in
theorem Ends.ok {α:Type}{o pm im:Nat}{lv cv:AV}{n:Nat}{En:α->AV->Prop}{r:Jp α}{a:α}{s':PS}{v:AV}{h':Hp}{cv':AV}(hr:r=.ok (a,s'))(hv:En a v)(R:eB h' o pm im lv cv' s')(ho:∀ t,Own o cv' t->Own o cv t\/n<=t) :
  Ends o pm im lv cv n En r (.returned v) h':=by subst hr;exact⟨v,cv',rfl,hv,R,ho⟩
omit S in
theorem Ends.err {α:Type}{o pm im:Nat}{lv cv:AV}{n:Nat}{En:α->AV->Prop}{r:Jp α}{f:kY}{h':Hp}(hr:r=.error f):Ends o pm im lv cv n En r (.panicked (iY f)) h':=by subst hr;rfl
omit S in
theorem aE.cons {n:Nat}{h:Hp}(hl:aE n h)(x:aK):aE (n+1) ((n,x)::h):=fun t _=>by rw[aX _ _ _ _ om];exact hl t om
omit S in
theorem eB.cons {n:Nat}{h:Hp}{o pm im:Nat}{lv cv:AV}{s:PS}(R:eB h o pm im lv cv s)(hl:aE n h)(x:aK):eB ((n,x)::h) o pm im lv cv s:=
 R.stable hl fun t _=>aX _ _ _ _ om
omit S in
theorem eB.putCell {n:Nat}{h:Hp}{o pm im:Nat}{lv cv:AV}{s:PS}(R:eB h o pm im lv cv s){a:Nat}{cs:List AV}(ha:h.get a=some (.cells cs))(hne:a≠o)(x:aK):eB (h.put a x) o pm im lv cv s:=by
 have M:=R.other ha hne;refine⟨by rw[qCf,if_neg (Ne.symm hne)];exact R.obj,R.toks,?_,R.len,R.flat,R.pos,R.clen,R.tabs.stable fun t x e=>by
  rw[qCf,if_neg]
  .exact e
  .rintro rfl;rw[ha]at e;cases e⟩
 rcases R.cols with h1 | ⟨oc,xs,rfl,hx,h2⟩
 .exact .inl h1
 .exact .inr ⟨oc,xs,rfl,by rw[qCf,if_neg (fun e=>M (.inr ⟨_,by rw[e]⟩))];exact hx,h2⟩
def isCells:Option aK->Bool
 |some (.cells _)=>true
 |_=>false
omit S in
theorem bH (cs:List AV):isCells (some (.cells cs))=true:=rfl
omit S in
theorem aE.putc {n:Nat}{h:Hp}(hl:aE n h){a:Nat}{x:aK}(ha:isCells (h.get a)=true):aE n (h.put a x):=fun t M=>by
 rw[qCf,if_neg]
 .exact hl t M
 .rintro rfl;rw[hl t M]at ha;cases ha
def bJ (h h':Hp):Prop:=∀ t x,h.get t=some x->(∀ cs,x≠.cells cs)->h'.get t=some x
omit S in
theorem bJ.refl {h:Hp}:bJ h h:=fun _ _ h _=>h
omit S in
theorem bJ.cons {h h':Hp}(k:bJ h h'){n:Nat}{x:aK}(hl:aE n h'):bJ h ((n,x)::h'):=fun t y e M=>by
 have:=k t y e M;rw[aX _ _ _ _ (by have:=hl.lt_of_get this;omega)];exact this
omit S in
theorem bJ.put {h h':Hp}(k:bJ h h'){a:Nat}{x:aK}(ha:isCells (h'.get a)=true):bJ h (h'.put a x):=fun t y e M=>by
 have:=k t y e M;rw[qCf,if_neg]
 .exact this
 .rintro rfl;rw[this]at ha;cases y<;>first | (cases ha;done) | exact M _ rfl
omit S in
theorem eB.upd {h h':Hp}{o pm im:Nat}{lv cv:AV}{s:PS}(R:eB h o pm im lv cv s){p:Nat}(hp:p<=s.l.length)(ho:h'.get o=some (.cells [.map pm,.map im,lv,.int .i64 p,cv]))(hs:bJ h h'):eB h' o pm im lv cv {s with pos:=p}:=by
 refine⟨ho,R.toks,?_,R.len,R.flat,hp,R.clen,R.tabs.stable fun t x e=>hs t _ e (fun cs e=>by cases e)⟩;rcases R.cols with h1 | ⟨oc,xs,rfl,hx,h2⟩
 .exact .inl h1
 .exact .inr ⟨oc,xs,rfl,hs oc _ hx (fun cs=>by intro e;cases e),h2⟩
omit S in
theorem P.ok_bind {α β:Type}{x:P α}{f:α->P β}{s s':PS}{a:α}(h:x s=.ok (a,s')):(x >>= f) s=f a s':=by
 show P.bind x f s=_;unfold P.bind;rw[h]
omit S in
theorem P.err_bind {α β:Type}{x:P α}{f:α->P β}{s:PS}{e:kY}(h:x s=.error e):(x >>= f) s=.error e:=by
 show P.bind x f s=_;unfold P.bind;rw[h]
theorem lE {α:Type}{o pm im:Nat}{lv:AV}(En:α->AV->Prop):aL Gl Gm Kp 125 [.ref o 0] o pm im lv P.fail En:=by
 refine aL.fin fun n h cv s R _ _=>qB6 S 8 [] Tryz.func125 fun _ _=>?_;have hp:=R.obj;refine z1 hp ?_;exact qC9<|rfl
theorem sV {o pm im:Nat}{lv:AV}(w:List UInt8):aL Gl Gm Kp 144 [.ref o 0,.str w] o pm im lv (P.take w) MH:=by
 refine aL.fin fun n h cv s R O _=>qB6 S 16 [.tmp 4] Tryz.func144 fun _ _=>?_;refine zz ?_;refine qCK ((sI S 0 dc w _ _ _ _ R _ fun n1 h1 l1 _ k1=>?_).mono (fun _ _ h=>h.elim) fun _ _ _ _ _ _ h=>h);have M:=R.stable O k1;have hp:=M.obj;cases hs:s.isSign 0 w with
 |false=>
  refine z1 hs ?_;exact qCI fun n' _ _=>.ok (by simp[P.take,hs]) rfl M fun t h=>.inl h
 |true=>
  have U:=s.sign_lt hs;have:=R.len;refine z3 hp hs @aQ ?_;exact qCI fun n' _ _=>.ok (by simp[P.take,hs]) rfl (M.put om) fun t h=>.inl h
theorem bL {o pm im:Nat}{lv:AV}(w:List UInt8):aL Gl Gm Kp 143 [.ref o 0,.str w] o pm im lv (P.need w) IQ:=by
 refine aL.fin fun n h cv s R _ _=>qB6 S 10 [] Tryz.func143 fun _ _=>?_;refine zz ?_;refine qCK ((sV S w).use R (fun t _ Y=>.inr Y) (by simp[P.take];split<;>simp) (fun a s1 M v n1 h1 cv1 ev O=>?_) (fun e M=>?_))
 .simp only[MH]at ev;subst ev;unfold P.need;rw[P.ok_bind M];cases a with
  |false=>
   refine zz ?_;refine qCK ((lE S (α:=Unit) IQ).use O.rep (fun t _ Y=>(O.own t Y).symm) (by simp[P.fail,lT]) (fun a s2 U=>by cases U) (fun e U n2 h2 l2 _ k2=>?_));refine zz ?_;exact qC9<|.err U
  |true=>
   refine zz ?_;exact qC9<|.ok rfl trivial O.rep O.own
 .simp only[P.take]at M;split at M<;>cases M
theorem iG {o pm im:Nat}{lv:AV}(c:Int)(hc:c≠0):aL Gl Gm Kp 142 [.ref o 0,.int .i64 c] o pm im lv (P.takeKind c) OR:=by
 refine aL.fin fun n h cv s R Y _=>qB6 S 22 [.cell 4 48] Tryz.func142 fun _ _=>?_;refine zz ?_;refine qCK ((gO S 0 dc _ _ _ _ (R.cons Y _) _ fun n1 h1 l1 _ k1=>?_).mono (fun _ _ h=>h.elim) fun _ _ _ _ _ _ h=>h);have R1:=(R.cons Y _).stable (aE.cons Y _) k1;have hp:=R1.obj;have ho:=aN Y R.obj;have U:=k1 n om;obtain⟨a1,M⟩:=eF R 0;have:=R.len;rw[bM]at U;by_cases O:(s.token 0).kind=c
 .have a2:=PS.tok_lt (s:=s) (by rw[O];exact hc);refine z6 hp U @aQ @qBz @qB0 M ?_;refine qCI fun n' _ _=>Ends.ok (s':={s with pos:=s.pos+1}) (a:=s.token 0) ?_ ⟨rfl,a1,M⟩ (R1.upd om (y2 hp U) ?_) fun t h=>.inl h
  .unfold P.takeKind;rw[P.ok_bind (x:=P.tok 0) rfl];simp only[O,if_true];rw[P.ok_bind (x:=P.step 1) (by unfold P.step;rw[if_pos om])]
   rfl
  ·(repeat' (first | exact bJ.refl | refine bJ.cons ?_ (by first | assumption | exact aE.cons (by assumption) _ | exact aE.cons (aE.cons (by assumption) _) _) | refine bJ.put ?_ (y3 @bH hp U)))
 .refine z6 hp U @aQ @qBz @qB0 M ?_;refine qCK ((lE S (α:=Tok) OR).use (s:=s) (R1.upd R.pos (y2 hp U) ?_) (fun t _ ht=>.inr ht) (by simp[P.fail,lT]) (fun a s2 e2=>by cases e2) (fun e e2 n2 h2 l2 _ k2=>?_))
  ·(repeat' (first | exact bJ.refl | refine bJ.cons ?_ (by first | assumption | exact aE.cons (by assumption) _ | exact aE.cons (aE.cons (by assumption) _) _) | refine bJ.put ?_ (y3 @bH hp U)))
  refine zz ?_;refine qC9<|.err ?_;unfold P.takeKind;rw[P.ok_bind (x:=P.tok 0) rfl];simp only[O,if_false];exact e2
end
mutual
inductive EN:Node->AV->Prop
 |mk {k n:Int}{s:List UInt8}{g:Bool}{d:AV}{l:List Node}{a e:Int}{lv:AV} (hd:eE d=true) (ho:AV.one d=true) (hl:EL l lv) :
   EN (.mk k n s g d l a e) (.agg [.int .i64 k,.int .i64 n,.str s,.bool g,d,lv,.int .i64 a,.int .i64 e])
inductive EL:List Node->AV->Prop
 |nil:EL [] .sl0
 |vec {l:List Node}{xs:List AV}{f:Bool} (h:EV l xs):EL l (.vec xs 8 f)
inductive EV:List Node->List AV->Prop
 |nil:EV [] []
 |cons {n:Node}{v:AV}{l:List Node}{vs:List AV} (h:EN n v) (t:EV l vs):EV (n::l) (v::vs)
end
theorem EL.flat {l:List Node}{v:AV}(h:EL l v):eE v=true:=by cases h<;>rfl
theorem EL.one {l:List Node}{v:AV}(h:EL l v):AV.one v=true:=by cases h<;>rfl
section
variable {Gl:qC6}{Gm:qC7}{Kp:qC8}(S:Seat Gm Kp)
include S
omit S in
theorem dG {a b:Nat}(h:a≠b):(a≠b)=True:=eq_true h
omit S in
theorem Bs {s:PS}(h0:s.pos≠0)(hp:s.pos<=s.l.length):(List.map Tok.av s.l)[s.pos-1]?=some (s.l.getD (s.pos-1) iH).av:=by
 have:s.pos-1<s.l.length:=om;simp[List.getD,this]
omit S in
theorem EN.frozen {n:Node}{v:AV}(h:EN n v):lG v=true:=by
 cases h with
 |mk hd ho hl=>
  unfold lG;simp only[jG,hd,hl.flat]
  rfl
omit S in
theorem EV.frozen:∀{l:List Node}{xs:List AV},EV l xs->∀ x ∈ xs,lG x=true
 |_,_,.nil,x,hx=>by cases hx
 |_,_,.cons h t,x,hx=>by
  rcases List.mem_cons.1 hx with rfl | hx
  .exact h.frozen
  .exact t.frozen x hx
omit S in
theorem EV.length:∀{l:List Node}{xs:List AV},EV l xs->xs.length=l.length
 |_,_,.nil=>rfl
 |_,_,.cons _ t=>by simp[t.length]
omit S in
theorem EV.append:∀{l m:List Node}{xs ys:List AV},EV l xs->EV m ys->EV (l++m) (xs++ys)
 |_,_,_,_,.nil,h=>h
 |_,_,_,_,.cons a t,h=>.cons a (t.append h)
inductive OV (h:Hp):List Node->AV->Option Nat->Prop
 |flat {l:List Node}{v:AV} (e:EL l v):OV h l v none
 |arr {l:List Node}{a:Nat}{xs:List AV} (hx:h.get a=some (.arr 8 xs)) (hl:l.length<=xs.length) (e:EV l (xs.take l.length)):OV h l (.sl a 0 l.length) (some a)
inductive TB (h:Hp):Node->AV->Option Nat->Prop
 |mk {k n:Int}{s:List UInt8}{g:Bool}{d:AV}{l:List Node}{a e:Int}{lv:AV}{w:Option Nat} (hd:eE d=true) (ho:AV.one d=true) (hl:OV h l lv w) :
   TB h (.mk k n s g d l a e) (.agg [.int .i64 k,.int .i64 n,.str s,.bool g,d,lv,.int .i64 a,.int .i64 e]) w
omit S in
theorem EN.enh {h:Hp}{n:Node}{v:AV}(e:EN n v):TB h n v none:=by
 cases e with
 |mk a b c=>exact .mk a b (.flat c)
def Ig:Option aK->Bool
 |some (.map _)=>false
 |_=>true
omit S in
theorem Bz (t:Nat)(xs:List AV):Ig (some (.arr t xs))=true:=rfl
omit S in
theorem MX (xs:List AV):Ig (some (.cells xs))=true:=rfl
omit S in
theorem eB.del {h:Hp}{o pm im:Nat}{lv cv:AV}{s:PS}(R:eB h o pm im lv cv s){a:Nat}(hne:¬Own o cv a)(hm:Ig (h.get a)=true):eB (h.del a) o pm im lv cv s:=by
 refine⟨by rw[qCe,if_neg (fun e=>hne (.inl e.symm))];exact R.obj,R.toks,?_,R.len,R.flat,R.pos,R.clen,R.tabs.stable fun t x e=>by
  rw[qCe,if_neg]
  .exact e
  .rintro rfl;rw[e]at hm;cases hm⟩
 rcases R.cols with h1 | ⟨oc,xs,rfl,hx,h2⟩
 .exact .inl h1
 .exact .inr ⟨oc,xs,rfl,by rw[qCe,if_neg (fun e=>hne (.inr ⟨_,by rw[e]⟩))];exact hx,h2⟩
theorem vN {n:Nat}{h:Hp}{o pm im:Nat}{lv cv:AV}{s:PS}(R:eB h o pm im lv cv s){nd:Node}{v:AV}{w:Option Nat}(hv:TB h nd v w)(hw:∀ a,w=some a->¬Own o cv a)(fr:Int)(ho:P.done nd fr s≠.error lT){Q:aS->Nat->Hp->Prop}
  (hQ:∀ nd',P.done nd fr s=.ok (nd',s)->∀ v' n' h',EN nd' v'->n<=n'->aE n' h'->(∀ t,t<n->w≠some t->h'.get t=h.get t)->eB h' o pm im lv cv s->Q (.returned v') n' h') :
  aG Tryz.prog Gl Gm Kp 145 [.ref o 0,v,.int .i64 fr] n h (fun t=>w=some t) Q:=by
 have h0:s.pos≠0:=by
  intro hc;apply ho;unfold P.done;rw[P.err_bind (e:=lT) (by unfold P.last;rw[if_pos hc])]
 have O:P.done nd fr s=.ok (nd.place fr (s.l.getD (s.pos-1) iH).en,s):=by
  unfold P.done;rw[P.ok_bind (x:=P.last) (by unfold P.last;rw[if_neg h0])]
  rfl
 refine aG.mono (B:=fun t=>w=some t) (Q:=fun e _ h'=>∃ v',e=.returned v'/\EN (nd.place fr (s.l.getD (s.pos-1) iH).en) v'/\eB h' o pm im lv cv s) ?_ (fun _ _ h=>h) (fun e n' h' a b c d=>by
  obtain⟨v',rfl,d1,d2⟩:=d;exact hQ _ O v' n' h' d1 a b (fun t ht hw=>c t ht hw) d2)
 refine qB6 S 23 [.cell 6 32] Tryz.func145 fun hB hl=>?_;have hp:=R.obj;have a4:=aN hl R.obj;have a2:=R.len;have M:=R.pos;have U:=Bs h0 R.pos;cases hv with
 |mk hd hone hl'=>
 rename_i k1 m1 s1 g1 d1 l1 a1 e1 lv1;rcases R.toks with⟨rfl,hz⟩ | ⟨f,rfl⟩
 .rw[hz]at M;simp at M;exact absurd M h0
 cases hl' with
 |flat hl'=>
  have hf:=hl'.flat;have h1:=hl'.one;refine z3 hp hone h1 ?_;refine qCP [(4,14),(8,14),(10,14),(12,14)] [] kr ?_;refine x7 hp hone h1 U @qBz @qB0 @dG ?_;refine qCI fun n' _ _=>⟨_,rfl,.mk hd hone hl',R.upd R.pos (y1 hp) ?_⟩
  (repeat' (first | exact bJ.refl | refine bJ.cons ?_ (by first | assumption | exact aE.cons (by assumption) _ | exact aE.cons (aE.cons (by assumption) _) _) | refine bJ.put ?_ (y2 @bH hp)))
 |arr hx hxl he=>
  have a3:=aN hl hx;have Y:=he.frozen;refine z2 hp hone ?_;refine qCP [(4,14),(8,14),(10,14),(12,14)] [] kr ?_;refine x7 hp hone U @qBz @qB0 @dG hx ?_;refine qCJ Y ?_;simp -dsimp (disch:=first | assumption | omega) only [go_sem,Nat.reduceLT,Nat.reduceBEq,Nat.reduceAdd,Nat.reduceSub,Nat.reduceLeDiff,Nat.reduceEqDiff,↓reduceIte,beq_true,beq_false,decide_eq_true,decide_eq_false,Option.some.injEq];refine qCI fun n' _ _=>⟨_,rfl,.mk hd hone (.vec he),(R.upd R.pos (y1 hp) ?_).del (hw _ rfl) (y2 hx @Bz)⟩
  (repeat' (first | exact bJ.refl | refine bJ.cons ?_ (by first | assumption | exact aE.cons (by assumption) _ | exact aE.cons (aE.cons (by assumption) _) _) | refine bJ.put ?_ (y2 @bH hp)))
theorem eV {o pm im:Nat}{lv:AV}{nd:Node}{v:AV}(hv:EN nd v)(fr:Int):aL Gl Gm Kp 145 [.ref o 0,v,.int .i64 fr] o pm im lv (P.done nd fr) EN:=by
 refine aL.fin fun n h cv s R _ U=>(vN S R (hv.enh) (fun a h=>by cases h) fr U fun _ O _ n' h' a b c d M=>?_).mono (fun t _ h=>by cases h) fun _ _ _ _ _ _ h=>h;exact .ok O a M fun t h=>.inl h
omit S in
theorem jL.cell {n:Nat}{h:Hp}{o pm im:Nat}{lv cv cv':AV}{s s':PS}{n':Nat}{h':Hp}(P1:jL n h o pm im lv cv s' n' h' cv')(R:eB h o pm im lv cv s)(hl:aE n h){a:Nat}{cs:List AV}(ha:h.get a=some (.cells cs))(hne:a≠o) :
  h'.get a=some (.cells cs):=(P1.keep a (aN hl ha) (R.other ha hne)).trans ha
omit S in
theorem aA.gen {f:FuncId}{args:List AV}{n:Nat}{h:Hp}{B:Nat->Prop}{Q:aS->Nat->Hp->Prop}{t}(w:∀ hX,hX=h->aA Tryz.prog Gl Gm Kp f args n hX B Q t):aA Tryz.prog Gl Gm Kp f args n h B Q t:=w h rfl
omit S in
theorem aZ.gen {f:FuncId}{args:List AV}{n:Nat}{h:Hp}{B:Nat->Prop}{Q:(Nat->Prop)->aS->Nat->Hp->Prop}{t}(w:∀ hX,hX=h->aZ Tryz.prog Gl Gm Kp f args n hX B Q t):aZ Tryz.prog Gl Gm Kp f args n h B Q t:=w h rfl
omit S in
theorem oY {o:Nat}{cv:AV}{t m n:Nat}(h:Own o cv t\/m<=t)(hm:n<=m):n<=t\/Own o cv t:=by
 rcases h with h | h
 .exact .inr h
 .exact .inl (Nat.le_trans hm h)
omit S in
theorem Mk {o:Nat}{cv cv1 cv2:AV}{t m k n:Nat}(h:Own o cv2 t->Own o cv1 t\/k<=t)(h':Own o cv1 t->Own o cv t\/m<=t)(hm:n<=m)(hk:n<=k)(ht:Own o cv2 t):Own o cv t\/n<=t:=by
 rcases h ht with h | h
 .rcases h' h with h | h
  .exact .inl h
  .exact .inr om
 .exact .inr om
def cC:List AV:=[.int .i64 0,.int .i64 0,.str [],.bool false,.sl0,.sl0,.int .i64 0,.int .i64 0]
theorem oE {o pm im:Nat}{lv:AV}:aL Gl Gm Kp 147 [.ref o 0] o pm im lv P.name EN:=by
 refine aL.fin fun n h cv s R hl ho=>qB6 S 13 [.cell 2 32] Tryz.func147 fun _ _=>?_;have aa:=aN hl R.obj;refine zz ?_;refine qCK ((iG S 1 dc).use (R.cons hl _) (fun t _ ht=>.inr ht) (fun hc=>ho (P.err_bind hc)) (fun t s1 Y v n1 h1 cv1 ev M=>?_) (fun e Y n1 h1 l1 a4 k1=>?_))
 .obtain⟨rfl,_,a2⟩:=ev;have hn:=M.cell (R.cons hl _) (aE.cons hl _) (bM _ _ _) om;have a4:=M.lt;have a9:=M.le;have hp:=M.rep.obj;refine z4 @qBz @qB0 a2 hn ?_;refine aA.gen fun hX eX=>?_;have RX:eB hX o pm im lv cv1 s1:=(by rw[eX];exact M.rep.upd M.rep.pos (y1 hp) (by(repeat' (first | exact bJ.refl | refine bJ.cons ?_ (by first | assumption | exact aE.cons (by assumption) _ | exact aE.cons (aE.cons (by assumption) _) _) | refine bJ.put ?_ (y2 @bH hp)))));have a5:aE (n1+1) hX:=(by rw[eX];(repeat' (first | assumption | refine aE.cons ?_ _ | refine aE.putc ?_ (y1 @bH))));have a6:hX.get n=some (.cells cC):=(by rw[eX];refine z1 hn ?_;rfl);clear eX;refine qCK ((eV S (nd:=nd 14 t.s []) (.mk rfl rfl .nil) t.at').use RX (fun t _ ht=>oY (M.own t ht) om) (fun hc=>ho ((P.ok_bind Y).trans hc)) (fun _ s2 e2 v2 n2 h2 cv2 a3 U=>?_) (fun e e2 n2 h2 l2 _ k2=>?_))
  .have a1:=U.cell RX a5 a6 om;have a7:=U.rep.obj;cases a3 with
   |mk hd hone2 hl'=>
   have O:=hl'.one;have a8:=hl'.flat;refine z4 a1 hone2 O @cC.eq_1 ?_;refine qCI fun n' _ _=>.ok ((P.ok_bind Y).trans e2) (.mk hd hone2 hl') (U.rep.upd U.rep.pos (y1 a7) (by(repeat' (first | exact bJ.refl | refine bJ.cons ?_ (by first | assumption | exact aE.cons (by assumption) _ | exact aE.cons (aE.cons (by assumption) _) _) | refine bJ.put ?_ (y3 @bH a1 @cC.eq_1))))) fun t ht=>Mk (U.own t) (M.own t) om om ht
  .refine zz ?_;exact qC9<|.err ((P.ok_bind Y).trans e2)
 .refine zz ?_;exact qC9<|.err (P.err_bind Y)
def qCD:=@cC.eq_1
end
def Holds (X:List (Nat×List AV))(o:Nat)(h:Hp):Prop:=∀ q ∈ X,h.get q.1=some (.cells q.2)/\q.1≠o
inductive Jr (h:Hp):List Node->AV->Option Nat->Prop
 |vec {l:List Node}{xs:List AV} (e:EV l xs):Jr h l (.vec xs 8 true) none
 |arr {l:List Node}{a:Nat}{xs:List AV} (hx:h.get a=some (.arr 8 xs)) (e:EV l xs):Jr h l (.sl a 0 l.length) (some a)
theorem Jr.elh {h:Hp}{l:List Node}{v:AV}{w:Option Nat}(e:Jr h l v w):OV h l v w:=by
 cases e with
 |vec e=>exact .flat (.vec e)
 |arr hx e=>exact .arr hx (by rw[e.length];exact Nat.le_refl _) (by rw[<- e.length,List.take_length];exact e)
theorem Holds.post {X:List (Nat×List AV)}{n:Nat}{h:Hp}{o pm im:Nat}{lv cv:AV}{s:PS}{h':Hp}(H:Holds X o h)(R:eB h o pm im lv cv s)(hl:aE n h)(k:∀ t,t<n->¬Own o cv t->h'.get t=h.get t):Holds X o h':=fun q M=>by
 obtain⟨h1,h2⟩:=H q M;exact⟨(k q.1 (aN hl h1) (R.other h1 h2)).trans h1,h2⟩
theorem jL.trans {n n1 n2:Nat}{h h1 h2:Hp}{o pm im:Nat}{lv cv cv1 cv2:AV}{s1 s2:PS}(P1:jL n h o pm im lv cv s1 n1 h1 cv1)(P2:jL n1 h1 o pm im lv cv1 s2 n2 h2 cv2):jL n h o pm im lv cv s2 n2 h2 cv2:=by
 refine⟨Nat.le_trans P1.le P2.le,P2.lt,P2.rep,fun t O U=>?_,fun t O=>?_⟩
 .rw[P2.keep t (Nat.lt_of_lt_of_le O P1.le) (fun M=>?_)]
  .exact P1.keep t O U
  .rcases P1.own t M with M | M
   .exact U M
   .omega
 .rcases P2.own t O with M | M
  .exact P1.own t M
  .exact .inr (Nat.le_trans P1.le M)
theorem jL.cons {n n1:Nat}{h h1:Hp}{o pm im:Nat}{lv cv cv1:AV}{s1:PS}(P1:jL n h o pm im lv cv s1 n1 h1 cv1)(x:aK):jL n h o pm im lv cv s1 (n1+1) ((n1,x)::h1) cv1:=
 ⟨Nat.le_succ_of_le P1.le,aE.cons P1.lt x,P1.rep.cons P1.lt x,fun t O M=>by rw[aX _ _ _ _ (by have:=P1.le;omega)];exact P1.keep t O M,P1.own⟩
theorem aE.del {n:Nat}{h:Hp}(hl:aE n h)(a:Nat):aE n (h.del a):=fun t M=>by
 rw[qCe];split
 .rfl
 .exact hl t M
theorem jL.del {n n1:Nat}{h h1:Hp}{o pm im:Nat}{lv cv cv1:AV}{s1:PS}(P1:jL n h o pm im lv cv s1 n1 h1 cv1){a:Nat}(ha:n<=a)(hn:¬Own o cv1 a)(hm:Ig (h1.get a)=true):jL n h o pm im lv cv s1 n1 (h1.del a) cv1:=
 ⟨P1.le,aE.del P1.lt a,P1.rep.del hn hm,fun t M hn=>by rw[lX _ _ _ om];exact P1.keep t M hn,P1.own⟩
theorem jL.fresh {n n1:Nat}{h h1:Hp}{o pm im:Nat}{lv cv cv1:AV}{s1:PS}(P1:jL n h o pm im lv cv s1 n1 h1 cv1){t:Nat}(ht:Own o cv1 t):t<n1:=by
 rcases ht with rfl | ⟨k,rfl⟩
 .exact aN P1.lt P1.rep.obj
 .rcases P1.rep.cols with⟨hc,_⟩ | ⟨oc,xs,hc,hx,_⟩
  .cases hc
  .cases hc;exact aN P1.lt hx
theorem Jr.app {h:Hp}{l:List Node}{xs:List AV}{a:Nat}{y:Node}{v:AV}(e:EV l xs)(ey:EN y v)(ha:h.get a=some (.arr 8 (xs++[v]))):Jr h (l++[y]) (.sl a 0 (xs.length+1)) (some a):=by
 have:=Jr.arr ha (e.append (.cons ey .nil));rw[List.length_append,<- e.length]at this;exact this
theorem Holds.cons {X:List (Nat×List AV)}{o n:Nat}{h:Hp}(H:Holds X o h)(hl:aE n h)(x:aK):Holds X o ((n,x)::h):=fun q M=>by
 obtain⟨h1,h2⟩:=H q M;exact⟨by rw[aX _ _ _ _ (by have:=aN hl h1;omega)];exact h1,h2⟩
theorem Holds.del {X:List (Nat×List AV)}{o a t:Nat}{xs:List AV}{h:Hp}(H:Holds X o h)(ha:h.get a=some (.arr t xs)):Holds X o (h.del a):=fun q M=>by
 obtain⟨h1,h2⟩:=H q M;exact⟨by rw[lX _ _ _ (fun e=>by subst e;rw[ha]at h1;cases h1)];exact h1,h2⟩
theorem EN.shape {n:Node}{v:AV}(h:EN n v):∃ cs,v=.agg cs/\cs.length=8/\cs.all AV.one=true/\jG cs=true:=by
 cases h with
 |mk hd ho hl=>
  refine⟨_,rfl,rfl,?_,?_⟩
  .simp only[List.all_cons,List.all_nil,ho,hl.one,dW,dX,dH,Bool.and_true]
  .simp only[jG,hd,hl.flat];rfl
theorem aM (n b:Nat)(h:n*b<=140737488355328)(h1:1<=b):lV n b=true:=by
 unfold lV;rw[Nat.ble_eq_true_of_le h,Nat.ble_eq_true_of_le h1];rfl
section
variable (Gl:qC6)(Gm:qC7)(Kp:qC8)
def iL (X:List (Nat×List AV)){α:Type}(f:FuncId)(args:List AV)(o pm im:Nat)(lv:AV)(m:P α)(En:α->AV->Prop):Prop:=
 ∀ n h cv s,eB h o pm im lv cv s->Holds X o h->m s≠.error lT->∀ Q:aS->Nat->Hp->Prop,(∀ a s',m s=.ok (a,s')->∀ v n' h' cv',En a v->jL n h o pm im lv cv s' n' h' cv'->Q (.returned v) n' h')->
  (∀ e,m s=.error e->∀ n' h',n<=n'->aE n' h'->(∀ t,t<n->¬Own o cv t->h'.get t=h.get t)->Q (.panicked (iY e)) n' h')->
  aG Tryz.prog Gl Gm Kp f args n h (Own o cv) Q
end
section
variable {Gl:qC6}{Gm:qC7}{Kp:qC8}(S:Seat Gm Kp)
include S
omit S in
theorem aL.x {α:Type}{f:FuncId}{args:List AV}{o pm im:Nat}{lv:AV}{m:P α}{En:α->AV->Prop}(M:aL Gl Gm Kp f args o pm im lv m En)(X:List (Nat×List AV)):iL Gl Gm Kp X f args o pm im lv m En:=
 fun n h cv s R _=>M n h cv s R
theorem xY (hk:Kp 146=(true,false)){X:List (Nat×List AV)}{o pm im:Nat}{lv:AV}{g:FuncId}{a c:List AV}{m:P Node}(M:iL Gl Gm Kp X g (a++c) o pm im lv m EN)(hca:∀ args,aT Tryz.prog g args=.ret (.enter g args))(f:Nat)(hf:f<1000000000)
  {n:Nat}{h:Hp}{cv:AV}{s:PS} (R:eB h o pm im lv cv s) (H:Holds X o h) (ho:P.listed f m s≠.error lT) {Q:aS->Nat->Hp->Prop}
  (h1:∀ l s',P.listed f m s=.ok (l,s')->∀ v w n' h' cv',Jr h' l v w->(∀ t,w=some t->n<=t/\¬Own o cv' t)->jL n h o pm im lv cv s' n' h' cv'->(w≠none->2<=l.length)->Q (.returned v) n' h')
  (h2:∀ e,P.listed f m s=.error e->∀ n' h',n<=n'->aE n' h'->(∀ t,t<n->¬Own o cv t->h'.get t=h.get t)->Q (.panicked (iY e)) n' h') :
  aG Tryz.prog Gl Gm Kp 146 [.ref o 0,.fn (.func g) a c] n h (Own o cv) Q:=by
 refine aG.mono (B:=Own o cv) (Q:=fun e n' h'=>(∃ l s' v w cv',P.listed f m s=.ok (l,s')/\e=.returned v/\(w≠none->2<=l.length)/\Jr h' l v w/\(∀ t,w=some t->n<=t/\¬Own o cv' t)/\eB h' o pm im lv cv' s'/\(∀ t,Own o cv' t->Own o cv t\/n<=t))\/∃ e',P.listed f m s=.error e'/\e=.panicked (iY e')) ?_ (fun _ _ h=>h) (fun e n' h' k1 k2 k3 d=>by
  rcases d with⟨l,s',v,w,cv',d1,rfl,d0,d2,d3,d4,d5⟩ | ⟨e',d1,rfl⟩
  .exact h1 l s' d1 v w n' h' cv' d2 d3 ⟨k1,k2,d4,k3,d5⟩ d0
  .exact h2 e' d1 n' h' k1 k2 k3)
 refine aG.code 17 [.tmp 4] Tryz.func146 rfl (S.gm _ dc) hk rfl rfl fun hB hl=>?_;refine z1 hca ?_;refine qCK ((M n h cv s R H (fun O=>ho (P.err_bind O)) _ (fun x s1 e1 v1 n1 h1 cv1 ev P1=>?_) (fun e e1 n1 h1 l1 an k1=>?_)).mono (fun t _ ht=>.inr ht) fun _ _ _ _ _ _ h=>h)
 .obtain⟨cs,rfl,ak,ae,_⟩:=ev.shape;have hE:=ev;refine z2 ak ae ?_;have an:=P1.lt;have az:=P1.le;have a9:P.listed f m s=P.more m f [_] s1:=P.ok_bind e1;refine qCQ (E0:=[(0,.ref o 0),(1,.fn (.func g) a c),(5,.vec [.agg cs] 8 true)]) (fun k E n2 h2=>∃ l s2 v w cv2,E=[(0,.ref o 0),(1,.fn (.func g) a c),(5,v)]/\P.listed f m s=P.more m k l s2/\Jr h2 l v w/\(∀ t,w=some t->n<=t/\¬Own o cv2 t)/\jL n h o pm im lv cv s2 n2 h2 cv2/\Holds X o h2/\(1<=l.length/\(w≠none->2<=l.length))/\l.length+k=f+1) f ?_ ?_ ?_
  .exact sb
  .exact⟨_,s1,_,none,cv1,rfl,a9,.vec (.cons hE .nil),(fun t h=>by cases h),P1,H.post R hl P1.keep,⟨Nat.le_refl _,fun h=>absurd rfl h⟩,Nat.add_comm _ _⟩
  .rintro k E n2 h2 hl2 hB2 ⟨l,s2,v,w,cv2,rfl,hm2,hv,hw2,P2,H2,hl12,hll⟩;have al:∃ k',k=k'+1:=by
    cases k with
    |zero=>exact absurd hm2 (fun O=>ho O)
    |succ k=>exact⟨k,rfl⟩
   obtain⟨k,rfl⟩:=al;refine zz ?_;refine qCK ((sV S [44]).use P2.rep (fun t _ ht=>oY (P2.own t ht) om) (by simp[P.take];split<;>simp) (fun b s3 e3 v3 n3 h3 a3 ad Y=>?_) (fun e e3=>?_))
   .simp only[MH]at ad;subst ad;have R3:=Y.rep;have ao:=Y.lt;have ax:=Y.le;have aw:=P2.le;have H3:=H2.post P2.rep hl2 Y.keep;cases b with
    |false=>
     have a5:P.listed f m s=.ok (l,s3):=hm2.trans (P.ok_bind e3);cases hv with
     |vec e=>
      refine zz ?_;exact qCI fun n' _ _=>.inl ⟨l,s3,_,none,a3,a5,rfl,(fun h=>absurd rfl h),.vec e,(fun t h=>by cases h),R3,fun t ht=>Mk (Y.own t) (P2.own t) om om ht⟩
     |arr hx e=>
      rename_i w xs;have U:=hw2 w rfl;have ab:=(Y.keep w (aN hl2 hx) U.2).trans hx;refine zz ?_;refine qCI fun n' _ _=>.inl ⟨l,s3,_,some w,a3,a5,rfl,hl12.2,.arr ab e,(fun t h=>?_),R3,fun t ht=>Mk (Y.own t) (P2.own t) om om ht⟩;cases h;refine⟨U.1,fun O=>?_⟩;rcases Y.own w O with O | O
      .exact U.2 O
      .have:=aN hl2 hx;omega
    |true=>
     have aa:P.listed f m s=(m >>= fun x=>P.more m k (l++[x])) s3:=hm2.trans (P.ok_bind e3);refine z1 hca ?_;refine qCK ((M n3 h3 a3 s3 R3 H3 (fun O=>ho (aa.trans (P.err_bind O))) _ (fun y s4 e4 v4 n4 h4 a6 a7 P4=>?_) (fun e e4 n4 h4 l4 a8 k4=>?_)).mono (fun t _ ht=>oY (by
      rcases Y.own t ht with O | O
      .exact P2.own t O
      .exact .inr om) (Nat.le_refl n)) fun _ _ _ _ _ _ h=>h)
     .obtain⟨ds,rfl,ag,a1,_⟩:=a7.shape;have ah:=aa.trans (P.ok_bind e4);have a2:=aM (l.length+1) 104 om om;have ay:=P4.le;have R4:=P4.rep;have a8:=P4.lt;have H4:=H3.post R3 ao P4.keep;cases hv with
      |vec e=>
       rename_i xs;have a4:=e.length;rw[<- a4]at a2;refine z4 ag a1 @aB a2 ?_;have P5:=((P2.trans Y).trans P4);refine qCR k [(0,.ref o 0),(1,.fn (.func g) a c),(5,.sl n4 0 (xs.length+1))] om sb ⟨l++[y],s4,_,some n4,a6,rfl,ah,.app e a7 (bM _ _ _),fun t ht=>?_,P5.cons _,H4.cons a8 _,⟨by simp,fun _=>by simp;have:=hl12.1;omega⟩,by simp;omega⟩;cases ht;exact⟨P5.le,fun O=>Nat.lt_irrefl _ (P5.fresh O)⟩
      |arr hx e=>
       rename_i w xs;have U:=hw2 w rfl;have ar:=aN hl2 hx;have ab:=(Y.keep w ar U.2).trans hx;have ai:¬Own o a3 w:=fun O=>by
        rcases Y.own w O with O | O
        .exact U.2 O
        .omega
       have ac:=(P4.keep w om ai).trans ab;have a4:=e.length;have P5:=((P2.trans Y).trans P4);have aj:¬Own o a6 w:=fun O=>by
        rcases P4.own w O with O | O
        .exact ai O
        .omega
       refine z6 ag a1 @aB a2 ac a4 ?_;have au:l.length=xs.length:=a4.symm;have ap:aE n4 (h4.del w):=aE.del a8 w;refine qCR k [(0,.ref o 0),(1,.fn (.func g) a c),(5,.sl n4 0 (l.length+1))] om sb ⟨l++[y],s4,_,some n4,a6,rfl,ah,by rw[au];exact .app e a7 (bM _ _ _),fun t ht=>?_,(P5.del U.1 aj (by rw[ac];rfl)).cons _,(H4.del ac).cons ap _,⟨by simp,fun _=>by simp;have:=hl12.1;omega⟩,by simp;omega⟩;cases ht;exact⟨P5.le,fun O=>Nat.lt_irrefl _ (P5.fresh O)⟩
     .refine zz ?_;exact qC9<|.inr ⟨e,aa.trans (P.err_bind e4),rfl⟩
   .simp only[P.take]at e3;split at e3<;>cases e3
 .refine zz ?_;exact qC9<|.inr ⟨e,P.err_bind e1,rfl⟩
end
def isT (_:Unit)(v:AV):Prop:=v=.bool true
inductive OC (h:Hp):List Unit->AV->Option Nat->Prop
 |vec {l:List Unit}{xs:List AV} (e:xs.length=l.length) (e':∀ x ∈ xs,x=.bool true):OC h l (.vec xs 1 true) none
 |arr {l:List Unit}{a:Nat}{xs:List AV} (hx:h.get a=some (.arr 1 xs)) (e:xs.length=l.length) (e':∀ x ∈ xs,x=.bool true):OC h l (.sl a 0 l.length) (some a)
theorem OC.app {h:Hp}{l:List Unit}{xs:List AV}{a:Nat}{y:Unit}(e:xs.length=l.length)(e':∀ x ∈ xs,x=.bool true)(ha:h.get a=some (.arr 1 (xs++[.bool true]))):OC h (l++[y]) (.sl a 0 (xs.length+1)) (some a):=by
 have:=OC.arr (l:=l++[y]) ha (by simp[e]) (fun x M=>by
  rcases List.mem_append.1 M with M | M
  .exact e' x M
  .simpa using M)
 rw[List.length_append,<- e]at this;exact this
section
variable {Gl:qC6}{Gm:qC7}{Kp:qC8}(S:Seat Gm Kp)
include S
theorem Ry (hk:Kp 295=(true,false)){X:List (Nat×List AV)}{o pm im:Nat}{lv:AV}{g:FuncId}{a c:List AV}{m:P Unit}(M:iL Gl Gm Kp X g (a++c) o pm im lv m isT)(hca:∀ args,aT Tryz.prog g args=.ret (.enter g args))(f:Nat)(hf:f<1000000000)
  {n:Nat}{h:Hp}{cv:AV}{s:PS} (R:eB h o pm im lv cv s) (H:Holds X o h) (ho:P.listed f m s≠.error lT) {Q:aS->Nat->Hp->Prop}
  (h1:∀ l s',P.listed f m s=.ok (l,s')->∀ v w n' h' cv',OC h' l v w->(∀ t,w=some t->n<=t/\¬Own o cv' t)->jL n h o pm im lv cv s' n' h' cv'->Q (.returned v) n' h')
  (h2:∀ e,P.listed f m s=.error e->∀ n' h',n<=n'->aE n' h'->(∀ t,t<n->¬Own o cv t->h'.get t=h.get t)->Q (.panicked (iY e)) n' h') :
  aG Tryz.prog Gl Gm Kp 295 [.ref o 0,.fn (.func g) a c] n h (Own o cv) Q:=by
 refine aG.mono (B:=Own o cv) (Q:=fun e n' h'=>(∃ l s' v w cv',P.listed f m s=.ok (l,s')/\e=.returned v/\OC h' l v w/\(∀ t,w=some t->n<=t/\¬Own o cv' t)/\eB h' o pm im lv cv' s'/\(∀ t,Own o cv' t->Own o cv t\/n<=t))\/∃ e',P.listed f m s=.error e'/\e=.panicked (iY e')) ?_ (fun _ _ h=>h) (fun e n' h' k1 k2 k3 d=>by
  rcases d with⟨l,s',v,w,cv',d1,rfl,d2,d3,d4,d5⟩ | ⟨e',d1,rfl⟩
  .exact h1 l s' d1 v w n' h' cv' d2 d3 ⟨k1,k2,d4,k3,d5⟩
  .exact h2 e' d1 n' h' k1 k2 k3)
 refine aG.code 17 [.tmp 4] Tryz.func295 rfl (S.gm _ dc) hk rfl rfl fun hB hl=>?_;refine z1 hca ?_;refine qCK ((M n h cv s R H (fun O=>ho (P.err_bind O)) _ (fun x s1 e1 v1 n1 h1 cv1 ev P1=>?_) (fun e e1 n1 h1 l1 ai k1=>?_)).mono (fun t _ ht=>.inr ht) fun _ _ _ _ _ _ h=>h)
 .cases ev;refine zz ?_;have ai:=P1.lt;have au:=P1.le;have a7:P.listed f m s=P.more m f [_] s1:=P.ok_bind e1;refine qCQ (E0:=[(0,.ref o 0),(1,.fn (.func g) a c),(5,.vec [.bool true] 1 true)]) (fun k E n2 h2=>∃ l s2 v w cv2,E=[(0,.ref o 0),(1,.fn (.func g) a c),(5,v)]/\P.listed f m s=P.more m k l s2/\OC h2 l v w/\(∀ t,w=some t->n<=t/\¬Own o cv2 t)/\jL n h o pm im lv cv s2 n2 h2 cv2/\Holds X o h2/\l.length+k=f+1) f ?_ ?_ ?_
  .exact sb
  .exact⟨_,s1,_,none,cv1,rfl,a7,.vec (xs:=[.bool true]) rfl sm,(fun t h=>by cases h),P1,H.post R hl P1.keep,Nat.add_comm _ _⟩
  .rintro k E n2 h2 hl2 hB2 ⟨l,s2,v,w,cv2,rfl,hm2,hv,hw2,P2,H2,hll⟩;have ah:∃ k',k=k'+1:=by
    cases k with
    |zero=>exact absurd hm2 (fun O=>ho O)
    |succ k=>exact⟨k,rfl⟩
   obtain⟨k,rfl⟩:=ah;refine zz ?_;refine qCK ((sV S [44]).use P2.rep (fun t _ ht=>oY (P2.own t ht) om) (by simp[P.take];split<;>simp) (fun b s3 e3 v3 n3 h3 a2 ab Y=>?_) (fun e e3=>?_))
   .simp only[MH]at ab;subst ab;have R3:=Y.rep;have aj:=Y.lt;have ap:=Y.le;have ao:=P2.le;have H3:=H2.post P2.rep hl2 Y.keep;cases b with
    |false=>
     have a4:P.listed f m s=.ok (l,s3):=hm2.trans (P.ok_bind e3);cases hv with
     |vec e e'=>
      refine zz ?_;exact qCI fun n' _ _=>.inl ⟨l,s3,_,none,a2,a4,rfl,.vec e e',(fun t h=>by cases h),R3,fun t ht=>Mk (Y.own t) (P2.own t) om om ht⟩
     |arr hx e e'=>
      rename_i w xs;have U:=hw2 w rfl;have a9:=(Y.keep w (aN hl2 hx) U.2).trans hx;refine zz ?_;refine qCI fun n' _ _=>.inl ⟨l,s3,_,some w,a2,a4,rfl,.arr a9 e e',(fun t h=>?_),R3,fun t ht=>Mk (Y.own t) (P2.own t) om om ht⟩;cases h;refine⟨U.1,fun O=>?_⟩;rcases Y.own w O with O | O
      .exact U.2 O
      .have:=aN hl2 hx;omega
    |true=>
     have a8:P.listed f m s=(m >>= fun x=>P.more m k (l++[x])) s3:=hm2.trans (P.ok_bind e3);refine z1 hca ?_;refine qCK ((M n3 h3 a2 s3 R3 H3 (fun O=>ho (a8.trans (P.err_bind O))) _ (fun y s4 e4 v4 n4 h4 a5 ag P4=>?_) (fun e e4 n4 h4 l4 a6 k4=>?_)).mono (fun t _ ht=>oY (by
      rcases Y.own t ht with O | O
      .exact P2.own t O
      .exact .inr om) (Nat.le_refl n)) fun _ _ _ _ _ _ h=>h)
     .cases ag;have ac:=a8.trans (P.ok_bind e4);have a1:=aM (l.length+1) 1 om om;have ar:=P4.le;have R4:=P4.rep;have a6:=P4.lt;have H4:=H3.post R3 aj P4.keep;cases hv with
      |vec e e'=>
       rename_i xs;have a3:=e;rw[<- a3]at a1;refine z1 a1 ?_;have P5:=((P2.trans Y).trans P4);refine qCR k [(0,.ref o 0),(1,.fn (.func g) a c),(5,.sl n4 0 (xs.length+1))] om sb ⟨l++[y],s4,_,some n4,a5,rfl,ac,.app e e' (bM _ _ _),fun t ht=>?_,P5.cons _,H4.cons a6 _,by simp;omega⟩;cases ht;exact⟨P5.le,fun O=>Nat.lt_irrefl _ (P5.fresh O)⟩
      |arr hx e e'=>
       rename_i w xs;have U:=hw2 w rfl;have al:=aN hl2 hx;have a9:=(Y.keep w al U.2).trans hx;have ad:¬Own o a2 w:=fun O=>by
        rcases Y.own w O with O | O
        .exact U.2 O
        .omega
       have aa:=(P4.keep w om ad).trans a9;have a3:=e;have P5:=((P2.trans Y).trans P4);have ae:¬Own o a5 w:=fun O=>by
        rcases P4.own w O with O | O
        .exact ad O
        .omega
       refine z3 a1 aa a3 ?_;have an:l.length=xs.length:=a3.symm;have ak:aE n4 (h4.del w):=aE.del a6 w;refine qCR k [(0,.ref o 0),(1,.fn (.func g) a c),(5,.sl n4 0 (l.length+1))] om sb ⟨l++[y],s4,_,some n4,a5,rfl,ac,by rw[an];exact .app e e' (bM _ _ _),fun t ht=>?_,(P5.del U.1 ae (by rw[aa];rfl)).cons _,(H4.del aa).cons ak _,by simp;omega⟩;cases ht;exact⟨P5.le,fun O=>Nat.lt_irrefl _ (P5.fresh O)⟩
     .refine zz ?_;exact qC9<|.inr ⟨e,a8.trans (P.err_bind e4),rfl⟩
   .simp only[P.take]at e3;split at e3<;>cases e3
 .refine zz ?_;exact qC9<|.inr ⟨e,P.err_bind e1,rfl⟩
omit S in
theorem iL.fin {X:List (Nat×List AV)}{α:Type}{f:FuncId}{args:List AV}{o pm im:Nat}{lv:AV}{m:P α}{En:α->AV->Prop}
  (w:∀ n h cv s,eB h o pm im lv cv s->Holds X o h->aE n h->m s≠.error lT->aG Tryz.prog Gl Gm Kp f args n h (Own o cv) fun e _ h'=>Ends o pm im lv cv n En (m s) e h'):iL Gl Gm Kp X f args o pm im lv m En:=by
 intro n h cv s R H ho Q h1 h2;refine⟨fun M=>?_⟩;refine((w n h cv s R H M ho).mono (fun _ _ h=>h) fun e n' h' a b c d=>?_).ok M;unfold Ends at d;cases hr:m s with
 |ok q=>
  obtain⟨x,s'⟩:=q;rw[hr]at d;obtain⟨v,cv',rfl,O,U,Y⟩:=d;exact h1 x s' hr v n' h' cv' O ⟨a,b,U,c,Y⟩
 |error f=>rw[hr]at d;subst d;exact h2 f hr n' h' a b c
omit S in
theorem Holds.nil {o:Nat}{h:Hp}:Holds [] o h:=fun _ M=>by cases M
omit S in
theorem Holds.push {X:List (Nat×List AV)}{o a:Nat}{cs:List AV}{h:Hp}(H:Holds X o h)(ha:h.get a=some (.cells cs))(hne:a≠o):Holds ((a,cs)::X) o h:=fun q M=>by
 rcases List.mem_cons.1 M with rfl | M
 .exact⟨ha,hne⟩
 .exact H q M
omit S in
theorem Holds.head {X:List (Nat×List AV)}{o a:Nat}{cs:List AV}{h:Hp}(H:Holds ((a,cs)::X) o h):h.get a=some (.cells cs):=(H _ (List.mem_cons_self ..)).1
omit S in
theorem Holds.tail {X:List (Nat×List AV)}{q:Nat×List AV}{o:Nat}{h:Hp}(H:Holds (q::X) o h):Holds X o h:=fun r M=>H r (List.mem_cons_of_mem _ M)
theorem NT {b o pm im:Nat}{lv:AV}:iL Gl Gm Kp [(b,[.ref o 0])] 296 [.ref b 0] o pm im lv (P.need [95]) isT:=by
 refine iL.fin fun n h cv s R H _ Y=>qB6 S 4 [.tmp 1] Tryz.func296 fun _ _=>?_;obtain⟨hb,O⟩:=H _ (List.mem_singleton.2 rfl);simp only at hb O;refine z1 hb ?_;refine qCK ((bL S [95]).use R (fun t _ ht=>.inr ht) Y (fun u s1 M v n1 h1 cv1 ev U=>?_) (fun e M n1 h1 l1 _ k1=>?_))
 .refine zz ?_;exact qC9<|.ok M rfl U.rep U.own
 .refine zz ?_;exact qC9<|.err M
theorem As (hk:Kp 295=(true,false)){o pm im:Nat}{lv:AV}(f:Nat)(hf:f<1000000000):aL Gl Gm Kp 230 [.ref o 0] o pm im lv (kW f) EN:=by
 refine aL.fin fun n h cv s R hl ho=>qB6 S 21 [.cell 2 32] Tryz.func230 fun hB _=>?_;have bj:=aN hl R.obj;refine zz ?_;have R0:eB ((n+1,aK.cells cC)::(n,.cells [.ref o 0])::h) o pm im lv cv s:=(R.cons hl _).cons (aE.cons hl _) _;have b3:aE (n+2) ((n+1,aK.cells cC)::(n,.cells [.ref o 0])::h):=aE.cons (aE.cons hl _) _;have H0:Holds [(n,[.ref o 0]),(n+1,cC)] o ((n+1,aK.cells cC)::(n,.cells [.ref o 0])::h):=
  (Holds.nil.push (bM _ _ _) om).push (by rw[aX _ _ _ _ om,bM]) om
 refine qCK ((oE S).use R0 (fun t _ O=>.inr O) (fun M=>ho (P.err_bind M)) (fun bm s1 e1 v n1 h1 cv1 ev P1=>?_) (fun e e1 n1 h1 l1 b4 k1=>?_))
 .have H1:=H0.post R0 b3 P1.keep;have al:=H1.head;have ax:=H1.tail.head;have bi:=P1.le;have b4:=P1.lt;have hp:=P1.rep.obj;cases ev with
  |mk hd hone hl'=>
  rename_i k2 m2 t2 g2 d2 l2 a2 e2 lv2;have ag:=hl'.one;refine z4 al ax hone ag ?_;refine aA.gen fun hX U=>?_;have RX:eB hX o pm im lv cv1 s1:=(by rw[U];exact P1.rep.upd P1.rep.pos (y1 hp) (by(repeat' (first | exact bJ.refl | refine bJ.cons ?_ (by first | assumption | exact aE.cons (by assumption) _ | exact aE.cons (aE.cons (by assumption) _) _) | refine bJ.put ?_ (y2 @bH hp)))));have ac:aE (n1+1) hX:=(by rw[U];(repeat' (first | assumption | refine aE.cons ?_ _ | refine aE.putc ?_ (y1 @bH))));have HX:Holds [(n1,[.int .i64 12,.int .i64 m2,.str t2,.bool g2,d2,lv2,.int .i64 a2,.int .i64 e2]),(n,[.ref o 0]),(n+1,cC)] o hX:=by
   refine((Holds.nil.push ?_ om).push ?_ om).push ?_ om
   .rw[U];exact y1 ax
   .rw[U];exact y1 al
   .rw[U];exact zc
  clear U;refine qCK ((sV S [40]).use RX (fun t _ O=>oY (P1.own t O) om) (by simp[P.take];split<;>simp) (fun b s3 e3 v3 n3 h3 bc ak P3=>?_) (fun e e3=>?_))
  .simp only[MH]at ak;subst ak;have H3:=HX.post RX ac P3.keep;have aw:=H3.head;have aa:=H3.tail.head;have ay:=H3.tail.tail.head;have b9:=P3.le;have ao:=P3.lt;have bk:=P3.rep.obj;cases b with
   |false=>
    have hm:kW f s=P.done (Node.setKind (.mk k2 m2 t2 g2 d2 l2 a2 e2) 12) a2 s3:=(P.ok_bind e1).trans (P.ok_bind e3);refine z3 aw aa ay ?_;refine qCK ((eV S (nd:=.mk 12 m2 t2 g2 d2 l2 a2 e2) (.mk hd hone hl') a2).use P3.rep (fun t _ O=>oY (by
      rcases P3.own t O with M | M
      .exact P1.own t M
      .exact .inr om) (by omega:n<=n+2)) (fun M=>ho (hm.trans M)) (fun bp s4 e4 v4 n4 h4 a8 a9 Y=>?_) (fun e e4 n4 h4 l4 a1 k4=>?_))
    .have H4:=H3.post P3.rep ao Y.keep;have a3:=H4.tail.tail.head;have aj:=Y.rep.obj;have ar:=Y.le;cases a9 with
     |mk hd4 hone4 a1=>
     have ah:=a1.one;have bg:=a1.flat;refine z4 a3 hone4 ah @qCD ?_;refine qCI fun n' _ _=>.ok (hm.trans e4) (.mk hd4 hone4 a1) (Y.rep.upd Y.rep.pos (y1 aj) (by(repeat' (first | exact bJ.refl | refine bJ.cons ?_ (by first | assumption | exact aE.cons (by assumption) _ | exact aE.cons (aE.cons (by assumption) _) _) | refine bJ.put ?_ (y3 @bH a3 @qCD))))) fun t O=>?_;rcases Y.own t O with M | M
     .rcases P3.own t M with M | M
      .exact(oY (n:=n) (P1.own t M) om).symm
      .exact .inr om
     .exact .inr om
    .refine zz ?_;exact qC9<|.err (hm.trans e4)
   |true=>
    have hm:kW f s=_:=(P.ok_bind e1).trans (P.ok_bind e3);replace hm:=nt hm;refine z3 aw aa ay ?_;refine qCK ((Ry S hk (X:=[(n,[.ref o 0])]) (a:=[]) (c:=[.ref n 0]) (NT S) (fun _=>rfl) f hf P3.rep (Holds.nil.push aa om) (fun M=>ho (hm.trans (P.err_bind M))) (fun l s4 e4 v4 w n4 h4 a8 a9 hw Y=>?_) (fun e e4 n4 h4 l4 a1 k4=>?_)).mono (fun t _ O=>oY (by
      rcases P3.own t O with M | M
      .exact P1.own t M
      .exact .inr om) (by omega:n<=n+2)) fun _ _ _ _ _ _ h=>h)
    .have ad:=hm.trans (P.ok_bind e4);have H4:=H3.post P3.rep ao Y.keep;have a4:=H4.head;have ab:=H4.tail.head;have a3:=H4.tail.tail.head;have aj:=Y.rep.obj;have ar:=Y.le;have a1:=Y.lt;have au:∃ xs,(v4=.vec xs 1 true/\xs.length=l.length)\/∃ a,v4=.sl a 0 l.length:=by
      cases a9 with
      |vec e e'=>exact⟨_,.inl ⟨rfl,e⟩⟩
      |arr=>exact⟨[],.inr ⟨_,rfl⟩⟩
     have an:∀ hX,hX=h4.put n1 (.cells [.int .i64 12,.int .i64 l.length,.str t2,.bool g2,d2,lv2,.int .i64 a2,.int .i64 e2])->eB hX o pm im lv a8 s4/\aE n4 hX/\Holds [(n1,[.int .i64 12,.int .i64 l.length,.str t2,.bool g2,d2,lv2,.int .i64 a2,.int .i64 e2]),(n,[.ref o 0]),(n+1,cC)] o hX:=fun hX U=>by
      refine⟨?_,?_,?_⟩
      .rw[U];exact Y.rep.upd Y.rep.pos (y1 aj) (by(repeat' (first | exact bJ.refl | refine bJ.cons ?_ (by first | assumption | exact aE.cons (by assumption) _ | exact aE.cons (aE.cons (by assumption) _) _) | refine bJ.put ?_ (y2 @bH a4))))
      .rw[U];(repeat' (first | assumption | refine aE.cons ?_ _ | refine aE.putc ?_ (y2 @bH a4)))
      .refine((Holds.nil.push ?_ om).push ?_ om).push ?_ om
       .rw[U];exact y1 a3
       .rw[U];exact y1 ab
       .rw[U];exact y1 a4
     have a5:∀ t,Own o a8 t->n<=t\/Own o cv t:=fun t O=>by
      rcases Y.own t O with M | M
      .rcases P3.own t M with M | M
       .exact oY (P1.own t M) om
       .exact .inl om
      .exact .inl om
     obtain⟨xs,⟨rfl,b8⟩ | ⟨a,rfl⟩⟩:=au
     all_goals
      first | refine z4 a4 ab a3 b8 ?_ | refine z3 a4 ab a3 ?_
      refine aA.gen fun hX U=>?_;obtain⟨RX,ac,HX⟩:=an hX U;clear U;refine qCK ((bL S [41]).use RX (fun t _ O=>a5 t O) (fun M=>ho (ad.trans (P.err_bind M))) (fun u s5 e5 v5 n5 h5 b0 be P5=>?_) (fun e e5 n5 h5 l5 ap k5=>?_))
      .have ae:=ad.trans (P.ok_bind e5);have H5:=HX.post RX ac P5.keep;have b5:=H5.head;have b2:=H5.tail.head;have b7:=H5.tail.tail.head;have bl:=P5.rep.obj;have ba:=P5.le;have ap:=P5.lt;refine z3 b5 b2 b7 ?_;have a6:∀ t,Own o b0 t->Own o cv t\/n<=t:=fun t O=>by
        rcases P5.own t O with M | M
        .exact(a5 t M).symm
        .exact .inr om
       refine qCK ((eV S (nd:=.mk 12 l.length t2 g2 d2 l2 a2 e2) (.mk hd hone hl') a2).use P5.rep (fun t _ O=>(a6 t O).symm) (fun M=>ho (ae.trans M)) (fun bq s6 e6 v6 n6 h6 bd b1 P6=>?_) (fun e e6 n6 h6 l6 a7 k6=>?_))
       .have H6:=H5.post P5.rep ap P6.keep;have az:=H6.tail.tail.head;have b6:=P6.rep.obj;have bb:=P6.le;cases b1 with
        |mk hd6 hone6 a7=>
        have ai:=a7.one;have bh:=a7.flat;refine z4 az hone6 ai @qCD ?_;refine qCI fun n' _ _=>.ok (ae.trans e6) (.mk hd6 hone6 a7) (P6.rep.upd P6.rep.pos (y1 b6) (by(repeat' (first | exact bJ.refl | refine bJ.cons ?_ (by first | assumption | exact aE.cons (by assumption) _ | exact aE.cons (aE.cons (by assumption) _) _) | refine bJ.put ?_ (y3 @bH az @qCD))))) fun t O=>?_;rcases P6.own t O with M | M
        .exact a6 t M
        .exact .inr om
       .refine zz ?_;exact qC9<|.err (ae.trans e6)
      .refine zz ?_;exact qC9<|.err (ad.trans (P.err_bind e5))
    .refine zz ?_;exact qC9<|.err (hm.trans (P.err_bind e4))
  .simp only[P.take]at e3;split at e3<;>cases e3
 .refine zz ?_;exact qC9<|.err (P.err_bind e1)
def SZ:P Node:=do
 let n <- P.name
 P.pure (n.setKind 12)
theorem zV {b o pm im:Nat}{lv:AV}:iL Gl Gm Kp [(b,[.ref o 0])] 378 [.ref b 0] o pm im lv SZ EN:=by
 refine iL.fin fun n h cv s R H hl ho=>qB6 S 7 [.cell 1 32] Tryz.func378 fun _ _=>?_;have a7:=aN hl R.obj;have a2:=aN hl H.head;have hb:=H.head;have a3:=(H _ (List.mem_singleton.2 rfl)).2;refine z1 hb ?_;have R0:eB ((n,aK.cells cC)::h) o pm im lv cv s:=R.cons hl _;have a1:aE (n+1) ((n,aK.cells cC)::h):=aE.cons hl _;have H0:Holds [(n,cC)] o ((n,aK.cells cC)::h):=Holds.nil.push (bM _ _ _) om;refine qCK ((oE S).use R0 (fun t _ ht=>.inr ht) (fun hc=>ho (P.err_bind hc)) (fun _ s1 e1 v n1 h1 cv1 ev M=>?_) (fun e e1 n1 h1 l1 U k1=>?_))
 .have H1:=H0.post R0 a1 M.keep;have Y:=H1.head;have a5:=M.le;have U:=M.lt;have hp:=M.rep.obj;have a6:=aN U hp;cases ev with
  |mk hd hone hl'=>
  have O:=hl'.one;have a4:=hl'.flat;refine z4 Y hone O @qCD ?_;refine qCI fun n' _ _=>.ok (P.ok_bind e1) (.mk hd hone hl') (M.rep.upd M.rep.pos (y1 hp) (by(repeat' (first | exact bJ.refl | refine bJ.cons ?_ (by first | assumption | exact aE.cons (by assumption) _ | exact aE.cons (aE.cons (by assumption) _) _) | refine bJ.put ?_ (y3 @bH Y @qCD))))) fun t ht=>?_;rcases M.own t ht with hc | hc
  .exact .inl hc
  .exact .inr om
 .refine zz ?_;exact qC9<|.err (P.err_bind e1)
theorem TK {m:P Node}{b o pm im:Nat}{lv:AV}(M:aL Gl Gm Kp 348 [.ref o 0,.bool false] o pm im lv m EN):iL Gl Gm Kp [(b,[.ref o 0])] 386 [.ref b 0] o pm im lv m EN:=by
 refine iL.fin fun n h cv s R H hl ho=>qB6 S 4 [.cell 1 32] Tryz.func386 fun _ _=>?_;have a7:=aN hl R.obj;have a3:=aN hl H.head;have hb:=H.head;refine z1 hb ?_;have R0:eB ((n,aK.cells cC)::h) o pm im lv cv s:=R.cons hl _;have a2:aE (n+1) ((n,aK.cells cC)::h):=aE.cons hl _;have H0:Holds [(n,cC)] o ((n,aK.cells cC)::h):=Holds.nil.push (bM _ _ _) om;refine qCK (M.use R0 (fun t _ ht=>.inr ht) ho (fun _ s1 e1 v n1 h1 cv1 ev O=>?_) (fun e e1 n1 h1 l1 Y k1=>?_))
 .have H1:=H0.post R0 a2 O.keep;have a1:=H1.head;have a5:=O.le;have Y:=O.lt;have hp:=O.rep.obj;have a6:=aN Y hp;cases ev with
  |mk hd hone hl'=>
  have U:=hl'.one;have a4:=hl'.flat;refine z4 a1 hone U @qCD ?_;refine qCI fun n' _ _=>.ok e1 (.mk hd hone hl') (O.rep.upd O.rep.pos (y1 hp) (by(repeat' (first | exact bJ.refl | refine bJ.cons ?_ (by first | assumption | exact aE.cons (by assumption) _ | exact aE.cons (aE.cons (by assumption) _) _) | refine bJ.put ?_ (y3 @bH a1 @qCD))))) fun t ht=>?_;rcases O.own t ht with hc | hc
  .exact .inl hc
  .exact .inr om
 .refine zz ?_;exact qC9<|.err e1
omit S in
theorem Jr.ne_cells {h:Hp}{l:List Node}{v:AV}{w:Option Nat}{a:Nat}{cs:List AV}(e:Jr h l v w)(ha:h.get a=some (.cells cs)):w≠some a:=by
 intro M;cases e with
 |vec e=>cases M
 |arr hx e=>cases M;rw[ha]at hx;cases hx
theorem Xh (hk:Kp 146=(true,false)){o pm im:Nat}{lv:AV}(f:Nat)(hf:f<1000000000)(M:aL Gl Gm Kp 348 [.ref o 0,.bool false] o pm im lv (kV f false) EN):aL Gl Gm Kp 363 [.ref o 0] o pm im lv (oN (f+1)) EN:=by
 refine aL.fin fun n h cv s R hl ho=>qB6 S 24 [.cell 2 32] Tryz.func363 fun hB _=>?_;have hx:=congrFun (oN.eq_2 f) s;rw[hx]at ho ⊢;have bk:=aN hl R.obj;refine zz ?_;have R0:eB ((n+1,aK.cells cC)::(n,.cells [.ref o 0])::h) o pm im lv cv s:=(R.cons hl _).cons (aE.cons hl _) _;have az:aE (n+2) ((n+1,aK.cells cC)::(n,.cells [.ref o 0])::h):=aE.cons (aE.cons hl _) _;have H0:Holds [(n,[.ref o 0]),(n+1,cC)] o ((n+1,aK.cells cC)::(n,.cells [.ref o 0])::h):=
  (Holds.nil.push (bM _ _ _) om).push (by rw[aX _ _ _ _ om,bM]) om
 refine qCK ((oE S).use R0 (fun t _ O=>.inr O) (fun U=>ho (P.err_bind U)) (fun bl s1 e1 v n1 h1 cv1 ev P1=>?_) (fun e e1 n1 h1 l1 b0 k1=>?_))
 .have H1:=H0.post R0 az P1.keep;have ah:=H1.head;have al:=H1.tail.head;have bj:=P1.le;have b0:=P1.lt;have hp:=P1.rep.obj;cases ev with
  |mk hd hone hl'=>
  rename_i k2 m2 t2 g2 d2 l2 a2 e2 lv2;have a1:=hl'.one;have ay:=hl'.flat;refine z4 ah al hone a1 ?_;refine aA.gen fun hX eX=>?_;have RX:eB hX o pm im lv cv1 s1:=(by rw[eX];exact P1.rep.upd P1.rep.pos (y1 hp) (by(repeat' (first | exact bJ.refl | refine bJ.cons ?_ (by first | assumption | exact aE.cons (by assumption) _ | exact aE.cons (aE.cons (by assumption) _) _) | refine bJ.put ?_ (y2 @bH hp)))));have b3:aE (n1+1) hX:=(by rw[eX];(repeat' (first | assumption | refine aE.cons ?_ _ | refine aE.putc ?_ (y1 @bH))));have HX:Holds [(n1,[.int .i64 k2,.int .i64 m2,.str t2,.bool g2,d2,lv2,.int .i64 a2,.int .i64 e2]),(n,[.ref o 0]),(n+1,cC)] o hX:=by
   refine((Holds.nil.push ?_ om).push ?_ om).push ?_ om
   .rw[eX];exact y1 al
   .rw[eX];exact y1 ah
   .rw[eX];exact zc
  clear eX;refine qCK ((sV S [40]).use RX (fun t _ O=>oY (P1.own t O) om) (by simp[P.take];split<;>simp) (fun b s3 e3 v3 n3 h3 ap ag P3=>?_) (fun e e3=>?_))
  .simp only[MH]at ag;subst ag;have H3:=HX.post RX b3 P3.keep;have ak:=H3.head;have a8:=H3.tail.head;have ac:=H3.tail.tail.head;have bc:=P3.le;have b1:=P3.lt;have b8:=P3.rep.obj;have Y:∀ t,Own o ap t->Own o cv t\/n<=t:=fun t O=>by
    rcases P3.own t O with U | U
    .exact(oY (n:=n) (P1.own t U) om).symm
    .exact .inr om
   cases b with
   |false=>
    refine z8 ak a8 ac hone a1 ay @qCD @Bool.not_false ?_;refine qCI fun n' _ _=>.ok ((P.ok_bind e1).trans (P.ok_bind e3)) (.mk hd hone hl') (P3.rep.upd P3.rep.pos (y1 b8) (by(repeat' (first | exact bJ.refl | refine bJ.cons ?_ (by first | assumption | exact aE.cons (by assumption) _ | exact aE.cons (aE.cons (by assumption) _) _) | refine bJ.put ?_ (y3 @bH ac @qCD))))) Y
   |true=>
    refine z4 ak a8 ac @Bool.not_true ?_;refine qCK ((xY S hk (X:=[(n,[.ref o 0])]) (a:=[]) (c:=[.ref n 0]) (TK S M) (fun _=>rfl) f hf P3.rep (Holds.nil.push a8 om) (fun U=>ho ((P.ok_bind e1).trans ((P.ok_bind e3).trans (P.err_bind U)))) (fun l s4 e4 v4 w n4 h4 ar a4 hw P4 _=>?_) (fun e e4 n4 h4 l4 a5 k4=>?_)).mono (fun t _ O=>(Y t O).symm) fun _ _ _ _ _ _ h=>h)
    .have H4:=H3.post P3.rep b1 P4.keep;have b6:=H4.head;have aw:=H4.tail.head;have ba:=H4.tail.tail.head;have bd:=P4.le;have a5:=P4.lt;have a3:∀ t,Own o ar t->Own o cv t\/n<=t:=fun t O=>by
      rcases P4.own t O with U | U
      .exact Y t U
      .exact .inr om
     refine z3 b6 aw ba ?_;refine qCK ((bL S [41]).use P4.rep (fun t _ O=>(a3 t O).symm) (fun U=>ho ((P.ok_bind e1).trans ((P.ok_bind e3).trans ((P.ok_bind e4).trans (P.err_bind U))))) (fun u s5 e5 v5 n5 h5 ae bh P5=>?_) (fun e e5 n5 h5 l5 b2 k5=>?_))
     .have H5:=H4.post P4.rep a5 P5.keep;have b7:=H5.head;have ax:=H5.tail.head;have ad:=H5.tail.tail.head;have be:=P5.le;have b2:=P5.lt;have ab:∀ t,Own o ae t->Own o cv t\/n<=t:=fun t O=>by
       rcases P5.own t O with U | U
       .exact a3 t U
       .exact .inr om
      have a7:Jr h5 l v4 w:=by
       cases a4 with
       |vec e=>exact .vec e
       |arr hx e=>exact .arr ((P5.keep _ (aN a5 hx) (hw _ rfl).2).trans hx) e
      have ao:∀ t,w=some t->n<=t/\¬Own o ae t:=fun t O=>⟨by have:=(hw t O).1;omega,fun U=>by
       rcases P5.own t U with U | U
       .exact(hw t O).2 U
       .cases a4 with
        |vec e=>cases O
        |arr hx e=>cases O;have:=aN a5 hx;omega⟩
      have bb:(∃ xs,v4=.vec xs 8 true)\/∃ a k,v4=.sl a 0 k:=by
       cases a4 with
       |vec e=>exact .inl ⟨_,rfl⟩
       |arr hx e=>exact .inr ⟨_,_,rfl⟩
      clear a4;have ai:=TB.mk (k:=15) (n:=0) (s:=t2) (g:=false) (d:=.sl0) (a:=0) (e:=0) rfl rfl a7.elh;have b4:=hx.trans (P.ok_bind e1);have a9:=b4.trans (P.ok_bind e3);replace a9:=nt a9;have b5:=a9.trans (P.ok_bind e4);have aj:=hx.symm.trans (b5.trans (P.ok_bind e5));rcases bb with⟨xs,rfl⟩ | ⟨q,k,rfl⟩
      all_goals
       refine z3 b7 ax ad ?_;refine qCK ((vN S P5.rep ai (fun t O=>(ao t O).2) a2 (fun U=>ho (aj.trans U)) fun bm e6 v6 n6 h6 au bg a6 k6 R6=>?_).mono (fun t _ O=>.inl (ao t O).1) fun _ _ _ _ _ _ h=>h);have an:h6.get (n+1)=some (.cells cC):=(k6 (n+1) om (a7.ne_cells ad)).trans ad;have b9:=R6.obj;cases au with
       |mk hd6 hone6 a6=>
       have aa:=a6.one;have bi:=a6.flat;refine z4 an hone6 aa @qCD ?_;exact qCI fun n' _ _=>.ok (aj.trans e6) (.mk hd6 hone6 a6) (R6.upd R6.pos (y1 b9) (by(repeat' (first | exact bJ.refl | refine bJ.cons ?_ (by first | assumption | exact aE.cons (by assumption) _ | exact aE.cons (aE.cons (by assumption) _) _) | refine bJ.put ?_ (y3 @bH an @qCD))))) ab
     .refine zz ?_;exact qC9<|.err ((P.ok_bind e1).trans ((P.ok_bind e3).trans ((P.ok_bind e4).trans (P.err_bind e5))))
    .refine zz ?_;exact qC9<|.err ((P.ok_bind e1).trans ((P.ok_bind e3).trans (P.err_bind e4)))
  .simp only[P.take]at e3;split at e3<;>cases e3
 .refine zz ?_;exact qC9<|.err (P.err_bind e1)
def uP (v:AV):List AV:=[.int .i64 16,.int .i64 0,.str [],.bool false,.sl0,v,.int .i64 0,.int .i64 0]
def kI (l:List Node):P Node:=match l with
 |[y]=>P.pure y
 |l=>P.pure (nd 16 [] l)
omit S in
theorem IM (f:Nat):IL f=(P.name >>= fun x=>fS f [x] >>= kI):=rfl
omit S in
theorem jL.putc {n n1:Nat}{h h1:Hp}{o pm im:Nat}{lv cv cv1:AV}{s1:PS}(P1:jL n h o pm im lv cv s1 n1 h1 cv1){a:Nat}{cs:List AV}(ha:h1.get a=some (.cells cs))(hne:a≠o)(hna:n<=a)(x:aK):jL n h o pm im lv cv s1 n1 (h1.put a x) cv1:=
 ⟨P1.le,aE.putc P1.lt (by rw[ha];rfl),P1.rep.putCell (n:=n1) ha hne x,fun t O M=>by rw[qCf,if_neg om];exact P1.keep t O M,P1.own⟩
omit S in
theorem Ch {l:List Node}(h:l.length≠1):kI l=P.pure (nd 16 [] l):=by
 unfold kI;split
 .exact absurd rfl h
 .rfl
omit S in
theorem Lh:inside 0 1=some 0:=rfl
theorem SE {o pm im:Nat}{lv:AV}(f:Nat)(hf:f<1000000000):aL Gl Gm Kp 388 [.ref o 0] o pm im lv (IL f) EN:=by
 rw[IM];refine aL.fin fun n h cv s R hl ho=>qB6 S 26 [.cell 2 32] Tryz.func388 fun hB _=>?_;have bk:=aN hl R.obj;refine zz ?_;have R0:eB ((n,aK.cells cC)::h) o pm im lv cv s:=R.cons hl _;have b5:aE (n+1) ((n,aK.cells cC)::h):=aE.cons hl _;have H0:Holds [(n,cC)] o ((n,aK.cells cC)::h):=Holds.nil.push (bM _ _ _) om;refine qCK ((oE S).use R0 (fun t _ ht=>.inr ht) (fun M=>ho (P.err_bind M)) (fun bd s1 e1 v n1 h1 cv1 ev P1=>?_) (fun e e1 n1 h1 l1 b6 k1=>?_))
 .obtain⟨cs,rfl,b1,an,_⟩:=ev.shape;have bj:=P1.le;have b6:=P1.lt;have H1:=H0.post R0 b5 P1.keep;have b9:=H1.head;refine z2 b1 an ?_;have ah:=P.ok_bind (f:=fun x=>fS f [x] >>= kI) e1;have b0:jL n h o pm im lv cv s1 n1 h1 cv1:=⟨by omega,P1.lt,P1.rep,fun t ht hn=>(P1.keep t om hn).trans (aX _ _ _ _ om),fun t ht=>by
   rcases P1.own t ht with M | M
   .exact .inl M
   .exact .inr om⟩
  refine qCQ (E0:=[(0,.ref o 0),(2,.ref n 0),(3,.ref n1 0)]) (fun k E n2 h2=>∃ l s2 v w cv2,E=[(0,.ref o 0),(2,.ref n 0),(3,.ref n1 0)]/\(P.name >>= fun x=>fS f [x] >>= kI) s=(fS k l >>= kI) s2/\Jr h2 l v w/\(∀ t,w=some t->n<=t/\¬Own o cv2 t)/\(aE n2 h2->jL n h o pm im lv cv s2 n2 h2 cv2)/\Holds [(n1,uP v),(n,cC)] o h2/\l.length+k=f+1/\n1<n2/\¬Own o cv2 n1) f ?_ ?_ ?_
  .exact sb
  .refine⟨[bd],s1,_,none,cv1,rfl,ah,.vec (.cons ev .nil),(fun t h=>by cases h),fun _=>(b0.cons _).putc (bM _ _ _) om om _,(Holds.nil.push ?_ om).push ?_ om,Nat.add_comm _ _,by omega,fun M=>?_⟩
   .exact y1 b9
   .exact y1 @uP.eq_1
   .have:=P1.fresh M;omega
  .rintro k E n2 h2 hl2 hB2 ⟨l,s2,v,w,cv2,rfl,hm2,hv,hw2,P2,H2,hll,hn2,hno2⟩;replace P2:=P2 hl2;have b4:∃ k',k=k'+1:=by
    cases k with
    |zero=>exact absurd hm2 (fun M=>ho M)
    |succ k=>exact⟨k,rfl⟩
   obtain⟨k,rfl⟩:=b4;refine zz ?_;refine qCK ((sV S [33]).use P2.rep (fun t _ ht=>oY (P2.own t ht) om) (by simp[P.take];split<;>simp) (fun b s3 e3 v3 n3 h3 a6 al O=>?_) (fun e e3=>?_))
   .simp only[MH]at al;subst al;have bg:=O.le;have be:=P2.le;have b7:=O.lt;have H3:=H2.post P2.rep hl2 O.keep;have a9:=H3.head;have a2:=H3.tail.head;have ak:=P2.trans O;cases b with
    |false=>
     have a1:(P.name >>= fun x=>fS f [x] >>= kI) s=kI l s3:=hm2.trans (P.ok_bind (P.ok_bind e3));have U:∀ t,Own o a6 t->Own o cv t\/n<=t:=ak.own;have ad:=O.rep.obj;by_cases aa:l.length=1
     .obtain⟨y,rfl⟩:∃ y,l=[y]:=List.length_eq_one_iff.1 aa;cases hv with
      |vec e=>
       cases e with
       |cons hy ht=>
       cases ht;cases hy with
       |mk hd hone' hl'=>
       have a3:=hl'.one;have b2:=hl'.flat;refine x8 a9 @uP.eq_1 a2 @qCD hone' a3 @aB @Lh ?_;exact qC9<|.ok a1 (.mk hd hone' hl') (O.rep.upd O.rep.pos (y1 ad) (by(repeat' (first | exact bJ.refl | refine bJ.cons ?_ (by first | assumption | exact aE.cons (by assumption) _ | exact aE.cons (aE.cons (by assumption) _) _) | refine bJ.put ?_ (y3 @bH a2 @qCD))))) U
      |arr hx e=>
       rename_i w xs;have a5:=(O.keep w (aN hl2 hx) (hw2 w rfl).2).trans hx;cases e with
       |cons hy ht=>
       cases ht;cases hy with
       |mk hd hone' hl'=>
       have a3:=hl'.one;have b2:=hl'.flat;refine x9 a9 @uP.eq_1 a2 @qCD hone' a3 @aB @Lh a5 ?_;exact qC9<|.ok a1 (.mk hd hone' hl') (O.rep.upd O.rep.pos (y1 ad) (by(repeat' (first | exact bJ.refl | refine bJ.cons ?_ (by first | assumption | exact aE.cons (by assumption) _ | exact aE.cons (aE.cons (by assumption) _) _) | refine bJ.put ?_ (y3 @bH a2 @qCD))))) U
     .have ar:(l.length:Int)≠1:=om;cases hv with
      |vec e=>
       have Y:=e.length;refine z6 a9 @uP.eq_1 a2 @qCD Y ar ?_;exact qC9<|.ok (a1.trans (by rw[Ch aa];rfl)) (.mk rfl rfl (.vec e)) (O.rep.upd O.rep.pos (y1 ad) (by(repeat' (first | exact bJ.refl | refine bJ.cons ?_ (by first | assumption | exact aE.cons (by assumption) _ | exact aE.cons (aE.cons (by assumption) _) _) | refine bJ.put ?_ (y3 @bH a2 @qCD))))) U
      |arr hx e=>
       rename_i w xs;have a5:=(O.keep w (aN hl2 hx) (hw2 w rfl).2).trans hx;have ax:n≠w:=fun M=>(by subst M;rw[H2.tail.head]at hx;cases hx);have ac:¬Own o a6 w:=fun M=>by
        rcases O.own w M with M | M
        .exact(hw2 w rfl).2 M
        .have:=aN hl2 hx;omega
       have Y:=e.length;have b3:=e.frozen;have bl:=(hw2 w rfl).1;refine z6 a9 @uP.eq_1 a2 @qCD ar a5 ?_;refine qCJ (fun x hx=>b3 x (List.mem_of_mem_take hx)) ?_;simp -dsimp (disch:=first | assumption | omega) only [go_sem,Nat.reduceLT,Nat.reduceBEq,Nat.reduceAdd,Nat.reduceSub,Nat.reduceLeDiff,Nat.reduceEqDiff,↓reduceIte,beq_true,beq_false,decide_eq_true,decide_eq_false,Nat.zero_add,Y,List.take_length];have e2:EV l (List.take l.length (List.drop 0 xs)):=(by rw[List.drop_zero,<- Y,List.take_length];exact e);exact qC9<|.ok (a1.trans (by rw[Ch aa];rfl)) (.mk rfl rfl (.vec (by first | exact e | exact e2))) ((O.rep.upd O.rep.pos (y1 ad) (by(repeat' (first | exact bJ.refl | refine bJ.cons ?_ (by first | assumption | exact aE.cons (by assumption) _ | exact aE.cons (aE.cons (by assumption) _) _) | refine bJ.put ?_ (y3 @bH a2 @qCD))))).del ac (y2 a5 @Bz)) U
    |true=>
     have a1:(P.name >>= fun x=>fS f [x] >>= kI) s=((P.name >>= fun x=>fS k (l++[x])) >>= kI) s3:=hm2.trans (by
      show P.bind _ _ _=P.bind _ _ _;unfold P.bind;rw[show fS (k+1) l s2=(P.name >>= fun x=>fS k (l++[x])) s3 from P.ok_bind e3])
     refine zz ?_;refine qCP [(1,3)] [] kr ?_;refine z2 a9 @uP.eq_1 ?_;have a4:(Own o a6 n1)=False:=eq_false fun M=>by
      rcases O.own n1 M with M | M
      .exact hno2 M
      .omega
     refine qCN (Own o a6) (fun t _ ht=>oY (by
      rcases O.own t ht with M | M
      .exact P2.own t M
      .exact .inr om) (Nat.le_refl n)) ((oE S).use O.rep (fun t _ ht=>ht) (fun M=>ho (a1.trans (P.err_bind (P.err_bind M)))) (fun y s4 e4 v4 n4 h4 ae ag P4=>?_) (fun e e4 n4 h4 l4 b8 k4=>?_))
     .have ap:(P.name >>= fun x=>fS f [x] >>= kI) s=(fS k (l++[y]) >>= kI) s4:=a1.trans (by
       show P.bind _ _ _=P.bind _ _ _;unfold P.bind;rw[show (P.name >>= fun x=>fS k (l++[x])) s3=fS k (l++[y]) s4 from P.ok_bind e4])
      obtain⟨ds,rfl,ao,a7,_⟩:=ag.shape;refine z1 a4 ?_;refine qCJ om ?_;have bh:=P4.le;have b8:=P4.lt;have H4:=H3.post O.rep b7 P4.keep;have ab:=H4.head;have aw:=H4.tail.head;have a8:=aM (l.length+1) 104 om om;have P5:=ak.trans P4;cases hv with
      |vec e=>
       rename_i xs;have Y:=e.length;rw[<- Y]at a8;refine z6 ao a7 @aB a8 ab @uP.eq_1 ?_;refine qCT fun nx bb bc=>?_;refine zz ?_;have P6:=(P5.cons (.arr 8 (xs++[.agg ds]))).putc (a:=n1) (cs:=uP (.vec xs 8 true)) (by rw[aX _ _ _ _ om];exact ab) om om (.cells (uP (.sl n4 0 (xs.length+1))));refine qCR k [(0,.ref o 0),(2,.ref n 0),(3,.ref n1 0)] om sb ⟨l++[y],s4,_,some n4,ae,rfl,ap,.app e ag (y1 @dG),fun t ht=>?_,fun ai=>⟨by omega,ai,P6.rep,P6.keep,P6.own⟩,(Holds.nil.push (y1 aw) om).push (y1 @uP.eq_1) om,by simp;omega,by omega,fun M=>?_⟩
       .cases ht;exact⟨P5.le,fun M=>Nat.lt_irrefl _ (P5.fresh M)⟩
       .rcases P4.own n1 M with M | M
        .exact a4.mp M
        .omega
      |arr hx e=>
       rename_i w xs;have aj:=hw2 w rfl;have ba:=aN hl2 hx;have a5:=(O.keep w ba aj.2).trans hx;have ac:¬Own o a6 w:=fun M=>by
        rcases O.own w M with M | M
        .exact aj.2 M
        .omega
       have ay:=(P4.keep w om ac).trans a5;have Y:=e.length;have ax:w≠n1:=fun M=>(by subst M;rw[H2.head]at hx;cases hx);refine z8 ao a7 @aB a8 ay Y ab @uP.eq_1 ?_;have au:¬Own o ae w:=fun M=>by
        rcases P4.own w M with M | M
        .exact ac M
        .omega
       have az:l.length=xs.length:=Y.symm;refine qCT fun nx bb bc=>?_;refine zz ?_;have P6:=((P5.del (a:=w) aj.1 au (by rw[ay];rfl)).cons (.arr 8 (xs++[.agg ds]))).putc (a:=n1) (cs:=uP (.sl w 0 l.length)) (by rw[aX _ _ _ _ om,lX _ _ _ ax];exact ab) om om (.cells (uP (.sl n4 0 (l.length+1))));have bi:w≠n:=fun M=>(by subst M;rw[H2.tail.head]at hx;cases hx);refine qCR k [(0,.ref o 0),(2,.ref n 0),(3,.ref n1 0)] om sb ⟨l++[y],s4,_,some n4,ae,rfl,ap,by rw[az];exact .app e ag (y1 @dG),fun t ht=>?_,fun ai=>⟨by omega,ai,P6.rep,P6.keep,P6.own⟩,(Holds.nil.push (y1 aw) om).push (y2 @uP.eq_1 az) om,by simp;omega,by omega,fun M=>?_⟩
       .cases ht;exact⟨P5.le,fun M=>Nat.lt_irrefl _ (P5.fresh M)⟩
       .rcases P4.own n1 M with M | M
        .exact a4.mp M
        .omega
     .refine z1 a4 ?_;refine qCJ om ?_;refine zz ?_;unfold gN;intro nx h' ha hb M;refine zz ?_;exact qC9<|.err (a1.trans (P.err_bind (P.err_bind e4)))
   .simp only[P.take]at e3;split at e3<;>cases e3
 .refine zz ?_;exact qC9<|.err (P.err_bind e1)
def CV (lv:AV)(k:Nat):Prop:=(lv=.sl0/\k=0)\/(∃ xs f,lv=.vec xs 10 f/\xs.length=k)\/∃ a,lv=.sl a 0 k
theorem Tm {w:eI}{sg:List UInt8}{q:oQ}{lv:AV}(hv:CV lv w.left.length){n:Nat}{h:Hp}{Q:aS->Nat->Hp->Prop}(hQ:∀ n' h',n<=n'->aE n' h'->(∀ t,t<n->h'.get t=h.get t)->Q (.returned (.bool (w.tighter sg q))) n' h') :
  aG Tryz.prog Gl Gm Kp 207 [.agg [.str w.sign,.int .i64 w.op.lo,.int .i64 w.op.hi,.bool w.op.left,lv,.int .i64 w.at'],.str sg,.agg [.int .i64 q.lo,.int .i64 q.hi,.bool q.left]] n h (fun _=>False) Q:=by
 refine aG.mono (B:=fun _=>False) (Q:=fun e _ _=>e=.returned (.bool (w.tighter sg q))) ?_ (fun _ _ h=>h) (fun e n' h' a b c d=>by subst d;exact hQ n' h' a b fun t ht=>c t ht id);refine qB6 S 29 [.tmp 6] Tryz.func207 fun _ _=>?_;have h1:AV.one lv=true:=(by rcases hv with⟨rfl,_⟩ | ⟨_,_,rfl,_⟩ | ⟨_,rfl⟩<;>rfl);have M:w.tighter sg q=(decide (w.op.lo>q.hi) || (decide (0<w.left.length)&&w.sign==sg&&q.left)):=by
  unfold eI.tighter;cases w.left<;>simp
 by_cases Y:w.op.lo>q.hi
 .refine z4 h1 @dW @dX @dH ?_;exact qCI fun _ _ _=>by rw[M];simp[Y]
 .have O:¬(q.hi<w.op.lo):=Y;rcases hv with⟨rfl,hk⟩ | ⟨xs,f,rfl,hk⟩ | ⟨a,rfl⟩
  .refine z4 h1 @dW @dX @dH ?_;exact qCI fun _ _ _=>by rw[M];simp[O,hk]
  .by_cases U:0<w.left.length
   .cases hsg:w.sign==sg with
    |false=>
     refine z6 h1 @dW @dX @dH hk hsg ?_;exact qCI fun _ _ _=>by rw[M];simp[O,U,hsg]
    |true=>
     refine z6 h1 @dW @dX @dH hk hsg ?_;exact qCI fun _ _ _=>by rw[M];simp[O,U,hsg]
   .refine z5 h1 @dW @dX @dH hk ?_;exact qCI fun _ _ _=>by rw[M];simp[O,U]
  .by_cases U:0<w.left.length
   .cases hsg:w.sign==sg with
    |false=>
     refine z5 h1 @dW @dX @dH hsg ?_;exact qCI fun _ _ _=>by rw[M];simp[O,U,hsg]
    |true=>
     refine z5 h1 @dW @dX @dH hsg ?_;exact qCI fun _ _ _=>by rw[M];simp[O,U,hsg]
   .refine z4 h1 @dW @dX @dH ?_;exact qCI fun _ _ _=>by rw[M];simp[O,U]
inductive EO:eD->AV->Prop
 |mk {k n:Int}{s:List UInt8}{g:Bool}{d:AV}{l:List Node}{a e fr to:Int}{lv:AV} (hd:eE d=true) (ho:AV.one d=true) (hl:EL l lv) :
   EO ⟨.mk k n s g d l a e,fr,to⟩ (.agg [.int .i64 k,.int .i64 n,.str s,.bool g,d,lv,.int .i64 a,.int .i64 e,.int .i64 fr,.int .i64 to])
def jX:List AV:=[.int .i64 0,.int .i64 0,.str [],.bool false,.sl0,.sl0,.int .i64 0,.int .i64 0,.int .i64 0,.int .i64 0]
theorem AK {o pm im:Nat}{lv:AV}(f:Nat)(Me:aL Gl Gm Kp 76 [.ref o 0] o pm im lv (cS f) EN)(Mb:aL Gl Gm Kp 279 [.ref o 0] o pm im lv (Gv f) EN):aL Gl Gm Kp 206 [.ref o 0] o pm im lv (lQ (f+1)) EO:=by
 refine aL.fin fun n h cv s R hl ho=>qB6 S 39 [.cell 2 146] Tryz.func206 fun hB _=>?_;have hx:=congrFun (lQ.eq_2 f) s;have b6:=aN hl R.obj;refine zz ?_;have R0:eB ((n,aK.cells jX)::h) o pm im lv cv s:=R.cons hl _;have au:aE (n+1) ((n,aK.cells jX)::h):=aE.cons hl _;have H0:Holds [(n,jX)] o ((n,aK.cells jX)::h):=Holds.nil.push (bM _ _ _) om;refine qCK ((iK S _ _ _ _ R0 _ fun n1 h1 l1 aw k1=>?_).mono (fun _ _ h=>h.elim) fun _ _ _ _ _ _ h=>h);have R1:=R0.stable au k1;have H1:Holds [(n,jX)] o h1:=Holds.nil.push ((k1 n om).trans (bM _ _ _)) om;have az:=hx.trans (P.ok_bind (x:=P.begin) rfl);refine zz ?_;refine qCK ((sV S [40]).use R1 (fun t _ ht=>.inr ht) (by simp[P.take];split<;>simp) (fun b s3 e3 v3 n3 h3 ar ah P3=>?_) (fun e e3=>?_))
 .simp only[MH]at ah;subst ah;have Y:=az.trans (P.ok_bind e3);have H3:=H1.post R1 aw P3.keep;have b7:=H3.head;have b2:=P3.le;have aj:=P3.lt;have a1:∀ t,Own o ar t->Own o cv t\/n<=t:=fun t ht=>by
   rcases P3.own t ht with M | M
   .exact .inl M
   .exact .inr om
  cases b with
  |true=>
   replace Y:=nt Y;refine zz ?_;refine qCK (Me.use P3.rep (fun t _ ht=>(a1 t ht).symm) (fun M=>ho (Y.trans (P.err_bind M))) (fun b1 s4 e4 v4 n4 h4 a9 ac P4=>?_) (fun e e4 n4 h4 l4 a5 k4=>?_))
   .have a3:=Y.trans (P.ok_bind e4);have H4:=H3.post P3.rep aj P4.keep;have ap:=H4.head;have ak:=P4.le;have a5:=P4.lt;have ag:=P4.rep.obj;have b4:=aN a5 ag;have U:∀ t,Own o a9 t->Own o cv t\/n<=t:=fun t ht=>by
     rcases P4.own t ht with M | M
     .exact a1 t M
     .exact .inr om
    cases ac with
    |mk hd hone hl'=>
    rename_i k2 m2 t2 g2 d2 l2 a2 e2 lv2;have O:=hl'.one;have ad:=hl'.flat;refine z2 hone O ?_;refine aA.gen fun hX eX=>?_;have RX:eB hX o pm im lv a9 s4:=(by rw[eX];exact P4.rep.upd P4.rep.pos (y1 ag) (by(repeat' (first | exact bJ.refl | refine bJ.cons ?_ (by first | assumption | exact aE.cons (by assumption) _ | exact aE.cons (aE.cons (by assumption) _) _) | refine bJ.put ?_ (y2 @bH ag)))));have ax:aE (n4+1) hX:=(by rw[eX];(repeat' (first | assumption | refine aE.cons ?_ _ | refine aE.putc ?_ (y1 @bH))));have HX:Holds [(n4,[.int .i64 k2,.int .i64 m2,.str t2,.bool g2,d2,lv2,.int .i64 a2,.int .i64 e2]),(n,jX)] o hX:=by
     refine(Holds.nil.push ?_ om).push ?_ om
     .rw[eX];exact y1 ap
     .rw[eX];exact zc
    clear eX;refine qCK ((bL S [41]).use RX (fun t _ ht=>(U t ht).symm) (fun M=>ho (a3.trans (P.err_bind M))) (fun u s5 e5 v5 n5 h5 ab ai P5=>?_) (fun e e5 n5 h5 l5 ae k5=>?_))
    .have aa:=a3.trans (P.ok_bind e5);have H5:=HX.post RX ax P5.keep;have ao:=H5.head;have a8:=H5.tail.head;have a6:=P5.rep.obj;have al:=P5.le;have R5:=P5.rep;have b3:=R5.len;have a7:=R5.pos;refine z3 ao hone O ?_;refine qCP [] [] kr ?_;have h0:s5.pos≠0:=fun M=>ho (aa.trans (P.err_bind (by unfold P.last;rw[if_pos M])));have ay:P.last s5=.ok ((s5.l.getD (s5.pos-1) iH).en,s5):=(by unfold P.last;rw[if_neg h0]);have b0:=aa.trans (P.ok_bind ay);have a4:∀ t,Own o ab t->Own o cv t\/n<=t:=fun t ht=>by
      rcases P5.own t ht with M | M
      .exact U t M
      .exact .inr om
     have an:=Bs h0 R5.pos;rcases R5.toks with⟨rfl,hz⟩ | ⟨fz,rfl⟩
     .rw[hz]at a7;simp at a7;exact absurd a7 h0
     refine TF a6 ao a8 hone O ad an @qBz @qB0 @dG @jX.eq_1 ?_;exact qC9<|.ok b0 (.mk hd hone hl') (P5.rep.upd P5.rep.pos (y1 a6) (by(repeat' (first | exact bJ.refl | refine bJ.cons ?_ (by first | assumption | exact aE.cons (by assumption) _ | exact aE.cons (aE.cons (by assumption) _) _) | refine bJ.put ?_ (y3 @bH a8 @jX.eq_1))))) a4
    .refine zz ?_;exact qC9<|.err (a3.trans (P.err_bind e5))
   .refine zz ?_;exact qC9<|.err (Y.trans (P.err_bind e4))
  |false=>
   replace Y:=nf Y;refine zz ?_;refine qCK (Mb.use P3.rep (fun t _ ht=>(a1 t ht).symm) (fun M=>ho (Y.trans (P.err_bind M))) (fun b1 s4 e4 v4 n4 h4 a9 ac P4=>?_) (fun e e4 n4 h4 l4 a5 k4=>?_))
   .have a3:=Y.trans (P.ok_bind e4);have H4:=H3.post P3.rep aj P4.keep;have ap:=H4.head;have ak:=P4.le;have a5:=P4.lt;have U:∀ t,Own o a9 t->Own o cv t\/n<=t:=fun t ht=>by
     rcases P4.own t ht with M | M
     .exact a1 t M
     .exact .inr om
    refine zz ?_;refine qCK ((eV S ac _).use P4.rep (fun t _ ht=>(U t ht).symm) (fun M=>ho (a3.trans (P.err_bind M))) (fun b8 s5 e5 v5 n5 h5 ab ai P5=>?_) (fun e e5 n5 h5 l5 ae k5=>?_))
    .have aa:=a3.trans (P.ok_bind e5);have H5:=H4.post P4.rep a5 P5.keep;have a8:=H5.head;have a6:=P5.rep.obj;have al:=P5.le;have ae:=P5.lt;have b5:=aN ae a6;have a4:∀ t,Own o ab t->Own o cv t\/n<=t:=fun t ht=>by
      rcases P5.own t ht with M | M
      .exact U t M
      .exact .inr om
     cases ai with
     |mk hd hone hl'=>
     have O:=hl'.one;have ad:=hl'.flat;refine z6 a8 hone O ad @jX.eq_1 @dG ?_;exact qC9<|.ok aa (.mk hd hone hl') (P5.rep.upd P5.rep.pos (y1 a6) (by(repeat' (first | exact bJ.refl | refine bJ.cons ?_ (by first | assumption | exact aE.cons (by assumption) _ | exact aE.cons (aE.cons (by assumption) _) _) | refine bJ.put ?_ (y3 @bH a8 @jX.eq_1))))) a4
    .refine zz ?_;exact qC9<|.err (a3.trans (P.err_bind e5))
   .refine zz ?_;exact qC9<|.err (Y.trans (P.err_bind e4))
 .simp only[P.take]at e3;split at e3<;>cases e3
def qCH:=@jX.eq_1
theorem QD {o pm im:Nat}{lv:AV}(f:Nat)(W:aL Gl Gm Kp 124 [.ref o 0] o pm im lv (gU f []) EO):aL Gl Gm Kp 76 [.ref o 0] o pm im lv (cS (f+1)) EN:=by
 refine aL.fin fun n h cv s R hl ho=>qB6 S 6 [.cell 2 32] Tryz.func76 fun _ _=>?_;have hx:=congrFun (cS.eq_2 f) s;have a6:=aN hl R.obj;refine zz ?_;have R0:eB ((n,aK.cells cC)::h) o pm im lv cv s:=R.cons hl _;have a2:aE (n+1) ((n,aK.cells cC)::h):=aE.cons hl _;have H0:Holds [(n,cC)] o ((n,aK.cells cC)::h):=Holds.nil.push (bM _ _ _) om;refine qCK (W.use R0 (fun t _ ht=>.inr ht) (fun hc=>ho (hx.trans (P.err_bind hc))) (fun _ s1 e1 v n1 h1 cv1 ev M=>?_) (fun e e1 n1 h1 l1 U k1=>?_))
 .have a3:=hx.trans (P.ok_bind e1);have H1:=H0.post R0 a2 M.keep;have Y:=H1.head;have a4:=M.le;have U:=M.lt;have hp:=M.rep.obj;have a5:=aN U hp;cases ev with
  |mk hd hone hl'=>
  have O:=hl'.one;have a1:=hl'.flat;refine z5 Y hone O a1 @qCD ?_;refine qCI fun n' _ _=>.ok a3 (.mk hd hone hl') (M.rep.upd M.rep.pos (y1 hp) (by(repeat' (first | exact bJ.refl | refine bJ.cons ?_ (by first | assumption | exact aE.cons (by assumption) _ | exact aE.cons (aE.cons (by assumption) _) _) | refine bJ.put ?_ (y3 @bH Y @qCD))))) fun t ht=>?_;rcases M.own t ht with hc | hc
  .exact .inl hc
  .exact .inr om
 .refine zz ?_;exact qC9<|.err (hx.trans (P.err_bind e1))
omit S in
theorem cJ {α:Type}{k:Nat}{g:Unit->P α}{s:PS}(ho:(P.step k >>= g) s≠.error Pa.lT):s.pos+k<=s.l.length/\P.step k s=.ok ((),{s with pos:=s.pos+k}):=by
 by_cases h:s.pos+k<=s.l.length
 .exact⟨h,by unfold P.step;rw[if_pos h]⟩
 .exact absurd (P.err_bind (by unfold P.step;rw[if_neg h])) ho
omit S in
theorem jL.new {n n1:Nat}{h h1:Hp}{o pm im:Nat}{lv cv cv1:AV}{s1:PS}(P1:jL n h o pm im lv cv s1 n1 h1 cv1)(hon:o<n1)(c0 cs:List AV):jL n h o pm im lv cv s1 (n1+1) (Hp.put ((n1,.cells c0)::h1) n1 (.cells cs)) cv1:=
 (P1.cons _).putc (bM _ _ _) om P1.le _
omit S in
theorem Holds.new {X:List (Nat×List AV)}{o n1:Nat}{h1:Hp}(H:Holds X o h1)(hl:aE n1 h1)(hon:o<n1)(c0 cs:List AV):Holds ((n1,cs)::X) o (Hp.put ((n1,.cells c0)::h1) n1 (.cells cs)):=fun q M=>by
 rcases List.mem_cons.1 M with rfl | M
 .exact⟨by rw[qCf,if_pos rfl],by show n1≠o;omega⟩
 .obtain⟨h1,h2⟩:=H q M;have:=aN hl h1;exact⟨by rw[qCf,if_neg om,aX _ _ _ _ om];exact h1,h2⟩
theorem Kr {o pm im:Nat}{lv:AV}(f:Nat)(Me:aL Gl Gm Kp 76 [.ref o 0] o pm im lv (cS f) EN):aL Gl Gm Kp 334 [.ref o 0] o pm im lv (mD (f+1)) EN:=by
 refine aL.fin fun n h cv s R hl ho=>qB6 S 26 [.cell 2 32] Tryz.func334 fun _ _=>?_;have hx:=congrFun (mD.eq_2 f) s;have bk:=aN hl R.obj;have hp:=R.obj;have bj:=R.len;obtain⟨b7,b8⟩:=cJ (fun M=>ho (hx.trans M));have ah:=hx.trans (P.ok_bind b8);refine z2 hp @aQ ?_;refine aA.gen fun hX eX=>?_;have RX:eB hX o pm im lv cv {s with pos:=s.pos+1}:=(by rw[eX];exact R.upd b7 (y1 hp) (by(repeat' (first | exact bJ.refl | refine bJ.cons ?_ (by first | assumption | exact aE.cons (by assumption) _ | exact aE.cons (aE.cons (by assumption) _) _) | refine bJ.put ?_ (y2 @bH hp)))));have b3:aE (n+1) hX:=(by rw[eX];(repeat' (first | assumption | refine aE.cons ?_ _ | refine aE.putc ?_ (y2 @bH hp))));have HX:Holds [(n,cC)] o hX:=Holds.nil.push (by rw[eX];exact y1 @qCD) om;clear eX;refine qCK (Me.use RX (fun t _ O=>.inr O) (fun M=>ho (ah.trans (P.err_bind M))) (fun _ s1 e1 v n1 h1 cv1 ev P1=>?_) (fun e e1 n1 h1 l1 ae k1=>?_))
 .have ai:=ah.trans (P.ok_bind e1);have H1:=HX.post RX b3 P1.keep;have bl:=H1.head;have bd:=P1.le;have ae:=P1.lt;have b5:=P1.rep.obj;have U:∀ t,Own o cv1 t->Own o cv t\/n<=t:=fun t O=>by
   rcases P1.own t O with M | M
   .exact .inl M
   .exact .inr om
  have E1:=ev;obtain⟨a3,rfl,ac,aa,az⟩:=ev.shape;refine z2 ac aa ?_;have a7:=aN ae b5;refine aA.gen fun hY eY=>?_;have PY:jL (n+1) hX o pm im lv cv s1 (n1+1) hY cv1:=(by rw[eY];exact P1.new a7 _ _);have HY:Holds [(n1,a3),(n,cC)] o hY:=(by rw[eY];exact H1.new ae a7 _ _);clear eY;refine qCK ((bL S [84,72,69,78]).use PY.rep (fun t _ O=>(U t O).symm) (fun M=>ho (ai.trans (P.err_bind M))) (fun u s2 e2 v2 n2 h2 cv2 _ P2=>?_) (fun e e2 n2 h2 l2 _ k2=>?_))
  .have aj:=ai.trans (P.ok_bind e2);have H2:=HY.post PY.rep PY.lt P2.keep;have be:=P2.le;have Y:∀ t,Own o cv2 t->Own o cv t\/n<=t:=fun t O=>by
    rcases P2.own t O with M | M
    .exact U t M
    .exact .inr om
   refine zz ?_;refine qCK (Me.use P2.rep (fun t _ O=>(Y t O).symm) (fun M=>ho (aj.trans (P.err_bind M))) (fun _ s3 e3 v3 n3 h3 an ao P3=>?_) (fun e e3 n3 h3 l3 ag k3=>?_))
   .have ak:=aj.trans (P.ok_bind e3);have H3:=H2.post P2.rep P2.lt P3.keep;have bg:=P3.le;have ag:=P3.lt;have a8:=aN ag P3.rep.obj;have a1:∀ t,Own o an t->Own o cv t\/n<=t:=fun t O=>by
     rcases P3.own t O with M | M
     .exact Y t M
     .exact .inr om
    have E3:=ao;obtain⟨a9,rfl,ad,ab,b0⟩:=ao.shape;refine z2 ad ab ?_;refine aA.gen fun hZ eZ=>?_;have PZ:jL n2 h2 o pm im lv cv2 s3 (n3+1) hZ an:=(by rw[eZ];exact P3.new a8 _ _);have HZ:Holds [(n3,a9),(n1,a3),(n,cC)] o hZ:=(by rw[eZ];exact H3.new ag a8 _ _);clear eZ;refine qCK ((bL S [69,76,83,69]).use PZ.rep (fun t _ O=>(a1 t O).symm) (fun M=>ho (ak.trans (P.err_bind M))) (fun u _ e4 v4 n4 h4 a4 _ P4=>?_) (fun e e4 n4 h4 l4 _ k4=>?_))
    .have al:=ak.trans (P.ok_bind e4);have H4:=HZ.post PZ.rep PZ.lt P4.keep;have au:=H4.head;have ar:=H4.tail.head;have bh:=P4.le;have a2:∀ t,Own o a4 t->Own o cv t\/n<=t:=fun t O=>by
      rcases P4.own t O with M | M
      .exact a1 t M
      .exact .inr om
     have a5:(Own o a4 n1)=False:=eq_false (P4.rep.other ar (H4.tail _ (List.mem_cons_self ..)).2);have a6:(Own o a4 n3)=False:=eq_false (P4.rep.other au (H4 _ (List.mem_cons_self ..)).2);refine zz ?_;refine qCP [(0,3),(1,3)] [] kr ?_;have b9:List.take 8 a3=a3:=List.take_of_length_le om;have ba:List.take 8 a9=a9:=List.take_of_length_le om;refine z8 ar au ac ad aa ab b9 ba ?_;refine qCN (Own o a4) (fun t _ O=>(a2 t O).symm) (Me.use P4.rep (fun t _ O=>O) (fun M=>ho (al.trans (P.err_bind M))) (fun _ _ e5 v5 n5 h5 _ ap P5=>?_) (fun e e5 n5 h5 l5 b2 k5=>?_))
     .have b4:=al.trans (P.ok_bind e5);have H5:=H4.post P4.rep P4.lt P5.keep;have aw:=H5.tail.tail.head;have b6:=P5.rep.obj;have b2:=P5.lt;have bi:=P5.le;have E5:=ap;obtain⟨_,rfl,ay,ax,b1⟩:=ap.shape;refine z2 a5 a6 ?_;refine qCJ om ?_;refine z2 a5 a6 ?_;refine qCJ om ?_;refine TA ac ad ay aa ab ax az b0 b1 @aB aw @qCD ?_;refine qCT fun nx bb bc=>?_;refine zz ?_;refine qC9<|.ok b4 (.mk rfl rfl (.vec (.cons E1 (.cons E3 (.cons E5 .nil))))) (P5.rep.upd P5.rep.pos (y1 b6) (by(repeat' (first | exact bJ.refl | refine bJ.cons ?_ (by first | assumption | exact aE.cons (by assumption) _ | exact aE.cons (aE.cons (by assumption) _) _) | refine bJ.put ?_ (y3 @bH aw @qCD))))) fun t O=>?_;rcases P5.own t O with M | M
      .exact a2 t M
      .exact .inr om
     .refine z2 a5 a6 ?_;refine qCJ om ?_;refine z2 a5 a6 ?_;refine qCJ om ?_;refine zz ?_;unfold gN;intro nx h' bb bc _;refine zz ?_;exact qC9<|.err (al.trans (P.err_bind e5))
    .refine zz ?_;exact qC9<|.err (ak.trans (P.err_bind e4))
   .refine zz ?_;exact qC9<|.err (aj.trans (P.err_bind e3))
  .refine zz ?_;exact qC9<|.err (ai.trans (P.err_bind e2))
 .refine zz ?_;exact qC9<|.err (ah.trans (P.err_bind e1))
def IN:P Node:=do
 P.step 1
 let w <- P.lastS
 P.pure (nd 19 w [])
theorem SY {o pm im:Nat}{lv:AV}:aL Gl Gm Kp 341 [.ref o 0] o pm im lv IN EN:=by
 refine aL.fin fun n h cv s R hl ho=>qB6 S 23 [.cell 2 32] Tryz.func341 fun _ _=>?_;have a5:=aN hl R.obj;have hp:=R.obj;have a3:=R.len;have a4:=R.pos;obtain⟨M,a2⟩:=cJ ho;have Y:IN s=_:=P.ok_bind a2;have U:P.lastS {s with pos:=s.pos+1}=.ok ((s.l.getD (s.pos+1-1) iH).s,{s with pos:=s.pos+1}):=by
  unfold P.lastS;rw[if_neg sm]
 have a1:=Y.trans (P.ok_bind U);have O:=Bs (s:={s with pos:=s.pos+1}) sm M;simp only at O;rcases R.toks with⟨rfl,hz⟩ | ⟨fz,rfl⟩
 .rw[hz]at M;simp at M
 refine z2 hp @aQ ?_;refine qCP [] [] kr ?_;refine x6 hp @aQ O @qBz @qB0 @dG ?_;exact qC9<|.ok a1 (.mk rfl rfl .nil) (R.upd (p:=s.pos+1) M (y1 hp) (by(repeat' (first | exact bJ.refl | refine bJ.cons ?_ (by first | assumption | exact aE.cons (by assumption) _ | exact aE.cons (aE.cons (by assumption) _) _) | refine bJ.put ?_ (y2 @bH hp))))) fun t ht=>.inl ht
end
section
variable {Gl:qC6}{Gm:qC7}{Kp:qC8}
structure St (n:Nat)(h:Hp)(o pm im:Nat)(lv cv:AV)(X:List (Nat×aK))(s1:PS)(n1:Nat)(h1:Hp)(cv1:AV):Prop where
 post:jL n h o pm im lv cv s1 n1 h1 cv1
 on:o<n
 hold:∀ q ∈ X,h1.get q.1=some q.2/\¬Own o cv1 q.1/\n<=q.1
 ord:X.Pairwise fun p q=>q.1<p.1
variable {n n1 n2:Nat}{h h1 h2:Hp}{o pm im:Nat}{lv cv cv1 cv2:AV}{X:List (Nat×aK)}{s s1 s2:PS}
theorem St.start (R:eB h o pm im lv cv s)(hl:aE n h):St n h o pm im lv cv [] s n h cv:=
 ⟨⟨Nat.le_refl _,hl,R,fun _ _ _=>rfl,fun _ O=>.inl O⟩,aN hl R.obj,fun _ M=>(by cases M),.nil⟩
theorem St.le (T:St n h o pm im lv cv X s1 n1 h1 cv1):n<=n1:=T.post.le
theorem St.lt (T:St n h o pm im lv cv X s1 n1 h1 cv1):aE n1 h1:=T.post.lt
theorem St.rep (T:St n h o pm im lv cv X s1 n1 h1 cv1):eB h1 o pm im lv cv1 s1:=T.post.rep
theorem St.obj (T:St n h o pm im lv cv X s1 n1 h1 cv1):h1.get o=some (.cells [.map pm,.map im,lv,.int .i64 s1.pos,cv1]):=T.post.rep.obj
theorem St.bound (T:St n h o pm im lv cv X s1 n1 h1 cv1):∀ t,t<n1->Own o cv1 t->n<=t\/Own o cv t:=fun t _ M=>(T.post.own t M).symm
theorem St.below (T:St n h o pm im lv cv X s1 n1 h1 cv1):∀ q ∈ X,q.1<n1:=fun q M=>aN T.post.lt (T.hold q M).1
theorem St.step (T:St n h o pm im lv cv X s1 n1 h1 cv1)(P2:jL n1 h1 o pm im lv cv1 s2 n2 h2 cv2):St n h o pm im lv cv X s2 n2 h2 cv2:=by
 refine⟨T.post.trans P2,T.on,fun q U=>?_,T.ord⟩;obtain⟨a,b,c⟩:=T.hold q U;have O:=T.below q U;refine⟨(P2.keep _ O b).trans a,fun M=>?_,c⟩;rcases P2.own _ M with M | M
 .exact b M
 .omega
theorem St.quiet (T:St n h o pm im lv cv X s1 n1 h1 cv1)(hle:n1<=n2)(hl:aE n2 h2)(k:∀ t,t<n1->h2.get t=h1.get t):St n h o pm im lv cv X s1 n2 h2 cv1:=
 T.step ⟨hle,hl,T.rep.stable T.lt k,fun t M _=>k t M,fun _ M=>.inl M⟩
theorem St.sub {Y:List (Nat×aK)}(T:St n h o pm im lv cv X s1 n1 h1 cv1)(hs:Y.Sublist X):St n h o pm im lv cv Y s1 n1 h1 cv1:=
 ⟨T.post,T.on,fun q M=>T.hold q (hs.subset M),T.ord.sublist hs⟩
theorem St.cell (T:St n h o pm im lv cv X s1 n1 h1 cv1)(x:aK):St n h o pm im lv cv ((n1,x)::X) s1 (n1+1) ((n1,x)::h1) cv1:=by
 refine⟨T.post.cons x,T.on,fun q M=>?_,.cons T.below T.ord⟩;rcases List.mem_cons.1 M with rfl | M
 .exact⟨bM _ _ _,fun O=>Nat.lt_irrefl _ (T.post.fresh O),T.le⟩
 .obtain⟨a,b,c⟩:=T.hold q M;exact⟨by rw[aX _ _ _ _ (by have:=T.below q M;omega)];exact a,b,c⟩
def qM:aK->Bool
 |.map _=>true
 |_=>false
theorem St.setAt {X Y:List (Nat×aK)}{a:Nat}{x:aK}(T:St n h o pm im lv cv (X++(a,x)::Y) s1 n1 h1 cv1)(y:aK)(hx:qM x=false:=by rfl):St n h o pm im lv cv (X++(a,y)::Y) s1 n1 (h1.put a y) cv1:=by
 obtain⟨ha,hb,hc⟩:=T.hold (a,x) sm;have a1:a≠o:=fun e=>hb (.inl e);have U:=T.below (a,x) sm;have O:=T.ord;rw[List.pairwise_append]at O;obtain⟨o1,o2,o3⟩:=O;rw[List.pairwise_cons]at o2;have hX:∀ q ∈ X,a<q.1:=fun q M=>o3 q M (a,x) sm;have hY:∀ q ∈ Y,q.1<a:=fun q M=>o2.1 q M;refine⟨⟨T.le,fun t ht=>?_,?_,fun t ht hn=>?_,T.post.own⟩,T.on,fun q M=>?_,?_⟩
 .rw[qCf,if_neg (by simp only at U;omega)];exact T.lt t ht
 .refine⟨by rw[qCf,if_neg (Ne.symm a1)];exact T.obj,T.rep.toks,?_,T.rep.len,T.rep.flat,T.rep.pos,T.rep.clen,T.rep.tabs.stable fun t z e=>by
   rw[qCf,if_neg]
   .exact e
   .rintro rfl;have e2:=(show h1.get _=some x from ha).symm.trans e;cases e2;cases hx⟩
  rcases T.rep.cols with h1 | ⟨oc,xs,e,hx,h2⟩
  .exact .inl h1
  .exact .inr ⟨oc,xs,e,by rw[qCf,if_neg (fun e'=>hb (.inr ⟨_,by rw[e,e']⟩))];exact hx,h2⟩
 .rw[qCf,if_neg (by simp only at hc;omega)];exact T.post.keep t ht hn
 .have:q=(a,y)\/(q ∈ X\/q ∈ Y):=by
   rcases List.mem_append.1 M with M | M
   .exact .inr (.inl M)
   .rcases List.mem_cons.1 M with M | M
    .exact .inl M
    .exact .inr (.inr M)
  rcases this with rfl | M
  .exact⟨by rw[qCf,if_pos rfl],hb,hc⟩
  .have a2:q.1≠a:=by
    rcases M with M | M
    .have:=hX q M;omega
    .have:=hY q M;omega
   have a3:q ∈ X++(a,x)::Y:=(by rcases M with M | M<;>simp[M]);obtain⟨u,v,w⟩:=T.hold q a3;exact⟨by rw[qCf,if_neg a2];exact u,v,w⟩
 .rw[List.pairwise_append];exact⟨o1,List.pairwise_cons.2 ⟨o2.1,o2.2⟩,fun p hp q M=>by
   rcases List.mem_cons.1 M with rfl | M
   .exact hX p hp
   .exact o3 p hp q (by simp[M])⟩
theorem St.set1 {a:Nat}{x:aK}{Y:List (Nat×aK)}(T:St n h o pm im lv cv ((a,x)::Y) s1 n1 h1 cv1)(y:aK)(hx:qM x=false:=by rfl):St n h o pm im lv cv ((a,y)::Y) s1 n1 (h1.put a y) cv1:=St.setAt (X:=[]) T y hx
theorem St.set2 {a:Nat}{x:aK}{p:Nat×aK}{Y:List (Nat×aK)}(T:St n h o pm im lv cv (p::(a,x)::Y) s1 n1 h1 cv1)(y:aK)(hx:qM x=false:=by rfl):St n h o pm im lv cv (p::(a,y)::Y) s1 n1 (h1.put a y) cv1:=St.setAt (X:=[p]) T y hx
theorem St.set3 {a:Nat}{x:aK}{p q:Nat×aK}{Y:List (Nat×aK)}(T:St n h o pm im lv cv (p::q::(a,x)::Y) s1 n1 h1 cv1)(y:aK)(hx:qM x=false:=by rfl):St n h o pm im lv cv (p::q::(a,y)::Y) s1 n1 (h1.put a y) cv1:=St.setAt (X:=[p,q]) T y hx
theorem St.set4 {a:Nat}{x:aK}{p q r:Nat×aK}{Y:List (Nat×aK)}(T:St n h o pm im lv cv (p::q::r::(a,x)::Y) s1 n1 h1 cv1)(y:aK)(hx:qM x=false:=by rfl):St n h o pm im lv cv (p::q::r::(a,y)::Y) s1 n1 (h1.put a y) cv1:=St.setAt (X:=[p,q,r]) T y hx
theorem St.set5 {a:Nat}{x:aK}{p q r u:Nat×aK}{Y:List (Nat×aK)}(T:St n h o pm im lv cv (p::q::r::u::(a,x)::Y) s1 n1 h1 cv1)(y:aK)(hx:qM x=false:=by rfl):St n h o pm im lv cv (p::q::r::u::(a,y)::Y) s1 n1 (h1.put a y) cv1:=St.setAt (X:=[p,q,r,u]) T y hx
theorem St.newc (T:St n h o pm im lv cv X s1 n1 h1 cv1)(x y:aK)(hx:qM x=false:=by rfl):St n h o pm im lv cv ((n1,y)::X) s1 (n1+1) (Hp.put ((n1,x)::h1) n1 y) cv1:=(T.cell x).set1 y hx
theorem St.delAt {X Y:List (Nat×aK)}{a:Nat}{x:aK}(T:St n h o pm im lv cv (X++(a,x)::Y) s1 n1 h1 cv1)(hx:qM x=false:=by rfl):St n h o pm im lv cv (X++Y) s1 n1 (h1.del a) cv1:=by
 obtain⟨ha,hb,hc⟩:=T.hold (a,x) sm;have O:=T.ord;rw[List.pairwise_append]at O;obtain⟨o1,o2,o3⟩:=O;rw[List.pairwise_cons]at o2;refine⟨T.post.del hc hb (by rw[show h1.get a=some x from ha];cases x<;>first | rfl | cases hx),T.on,fun q M=>?_,?_⟩
 .have U:q.1≠a:=by
   rcases List.mem_append.1 M with M | M
   .have:=o3 q M (a,x) sm;simp only at this;omega
   .have:=o2.1 q M;simp only at this;omega
  have a1:q ∈ X++(a,x)::Y:=(by rcases List.mem_append.1 M with M | M<;>simp[M]);obtain⟨u,v,w⟩:=T.hold q a1;exact⟨by rw[lX _ _ _ (Ne.symm U)];exact u,v,w⟩
 .rw[List.pairwise_append];exact⟨o1,o2.2,fun p hp q M=>o3 p hp q (by simp[M])⟩
theorem St.del1 {a:Nat}{x:aK}{Y:List (Nat×aK)}(T:St n h o pm im lv cv ((a,x)::Y) s1 n1 h1 cv1)(hx:qM x=false:=by rfl):St n h o pm im lv cv Y s1 n1 (h1.del a) cv1:=St.delAt (X:=[]) T hx
theorem St.del2 {a:Nat}{x:aK}{p:Nat×aK}{Y:List (Nat×aK)}(T:St n h o pm im lv cv (p::(a,x)::Y) s1 n1 h1 cv1)(hx:qM x=false:=by rfl):St n h o pm im lv cv (p::Y) s1 n1 (h1.del a) cv1:=St.delAt (X:=[p]) T hx
theorem St.del3 {a:Nat}{x:aK}{p q:Nat×aK}{Y:List (Nat×aK)}(T:St n h o pm im lv cv (p::q::(a,x)::Y) s1 n1 h1 cv1)(hx:qM x=false:=by rfl):St n h o pm im lv cv (p::q::Y) s1 n1 (h1.del a) cv1:=St.delAt (X:=[p,q]) T hx
theorem St.del4 {a:Nat}{x:aK}{p q r:Nat×aK}{Y:List (Nat×aK)}(T:St n h o pm im lv cv (p::q::r::(a,x)::Y) s1 n1 h1 cv1)(hx:qM x=false:=by rfl):St n h o pm im lv cv (p::q::r::Y) s1 n1 (h1.del a) cv1:=St.delAt (X:=[p,q,r]) T hx
theorem St.pos (T:St n h o pm im lv cv X s1 n1 h1 cv1){p:Nat}(hp:p<=s1.l.length):St n h o pm im lv cv X {s1 with pos:=p} n1 (h1.put o (.cells [.map pm,.map im,lv,.int .i64 p,cv1])) cv1:=by
 have U:=aN T.lt T.obj;have Y:=T.on;refine⟨⟨T.le,fun t M=>?_,T.rep.put hp,fun t M O=>?_,T.post.own⟩,T.on,fun q hq=>?_,T.ord⟩
 .rw[qCf,if_neg om];exact T.lt t M
 .rw[qCf,if_neg (fun e=>O (.inl e))];exact T.post.keep t M O
 .obtain⟨a,b,c⟩:=T.hold q hq;exact⟨by rw[qCf,if_neg (fun e=>b (.inl e))];exact a,b,c⟩
theorem St.g1 {a:Nat}{x:aK}{Y:List (Nat×aK)}(T:St n h o pm im lv cv ((a,x)::Y) s1 n1 h1 cv1):h1.get a=some x:=(T.hold (a,x) sm).1
theorem St.g2 {a:Nat}{x:aK}{p:Nat×aK}{Y:List (Nat×aK)}(T:St n h o pm im lv cv (p::(a,x)::Y) s1 n1 h1 cv1):h1.get a=some x:=(T.hold (a,x) sm).1
theorem St.g3 {a:Nat}{x:aK}{p q:Nat×aK}{Y:List (Nat×aK)}(T:St n h o pm im lv cv (p::q::(a,x)::Y) s1 n1 h1 cv1):h1.get a=some x:=(T.hold (a,x) sm).1
theorem St.g4 {a:Nat}{x:aK}{p q r:Nat×aK}{Y:List (Nat×aK)}(T:St n h o pm im lv cv (p::q::r::(a,x)::Y) s1 n1 h1 cv1):h1.get a=some x:=(T.hold (a,x) sm).1
theorem St.g5 {a:Nat}{x:aK}{p q r u:Nat×aK}{Y:List (Nat×aK)}(T:St n h o pm im lv cv (p::q::r::u::(a,x)::Y) s1 n1 h1 cv1):h1.get a=some x:=(T.hold (a,x) sm).1
theorem St.o1 {a:Nat}{x:aK}{Y:List (Nat×aK)}(T:St n h o pm im lv cv ((a,x)::Y) s1 n1 h1 cv1):Own o cv1 a=False:=eq_false (T.hold (a,x) sm).2.1
theorem St.o2 {a:Nat}{x:aK}{p:Nat×aK}{Y:List (Nat×aK)}(T:St n h o pm im lv cv (p::(a,x)::Y) s1 n1 h1 cv1):Own o cv1 a=False:=eq_false (T.hold (a,x) sm).2.1
theorem St.o3 {a:Nat}{x:aK}{p q:Nat×aK}{Y:List (Nat×aK)}(T:St n h o pm im lv cv (p::q::(a,x)::Y) s1 n1 h1 cv1):Own o cv1 a=False:=eq_false (T.hold (a,x) sm).2.1
theorem St.o4 {a:Nat}{x:aK}{p q r:Nat×aK}{Y:List (Nat×aK)}(T:St n h o pm im lv cv (p::q::r::(a,x)::Y) s1 n1 h1 cv1):Own o cv1 a=False:=eq_false (T.hold (a,x) sm).2.1
theorem St.k1 {a:Nat}{x:aK}{Y:List (Nat×aK)}(T:St n h o pm im lv cv ((a,x)::Y) s1 n1 h1 cv1)(k:∀ t,t<n1->¬Own o cv1 t->h2.get t=h1.get t):h2.get a=some x:=by
 obtain⟨u,v,w⟩:=T.hold (a,x) sm;exact(k a (T.below (a,x) sm) v).trans u
theorem St.k2 {a:Nat}{x:aK}{p:Nat×aK}{Y:List (Nat×aK)}(T:St n h o pm im lv cv (p::(a,x)::Y) s1 n1 h1 cv1)(k:∀ t,t<n1->¬Own o cv1 t->h2.get t=h1.get t):h2.get a=some x:=by
 obtain⟨u,v,w⟩:=T.hold (a,x) sm;exact(k a (T.below (a,x) sm) v).trans u
theorem St.k3 {a:Nat}{x:aK}{p q:Nat×aK}{Y:List (Nat×aK)}(T:St n h o pm im lv cv (p::q::(a,x)::Y) s1 n1 h1 cv1)(k:∀ t,t<n1->¬Own o cv1 t->h2.get t=h1.get t):h2.get a=some x:=by
 obtain⟨u,v,w⟩:=T.hold (a,x) sm;exact(k a (T.below (a,x) sm) v).trans u
theorem St.k4 {a:Nat}{x:aK}{p q r:Nat×aK}{Y:List (Nat×aK)}(T:St n h o pm im lv cv (p::q::r::(a,x)::Y) s1 n1 h1 cv1)(k:∀ t,t<n1->¬Own o cv1 t->h2.get t=h1.get t):h2.get a=some x:=by
 obtain⟨u,v,w⟩:=T.hold (a,x) sm;exact(k a (T.below (a,x) sm) v).trans u
theorem St.k5 {a:Nat}{x:aK}{p q r u:Nat×aK}{Y:List (Nat×aK)}(T:St n h o pm im lv cv (p::q::r::u::(a,x)::Y) s1 n1 h1 cv1)(k:∀ t,t<n1->¬Own o cv1 t->h2.get t=h1.get t):h2.get a=some x:=by
 obtain⟨u,v,w⟩:=T.hold (a,x) sm;exact(k a (T.below (a,x) sm) v).trans u
theorem St.l1 {p:Nat×aK}{Y:List (Nat×aK)}(T:St n h o pm im lv cv (p::Y) s1 n1 h1 cv1):p.1<n1/\n<=p.1:=⟨T.below p sm,(T.hold p sm).2.2⟩
theorem St.l2 {p q:Nat×aK}{Y:List (Nat×aK)}(T:St n h o pm im lv cv (p::q::Y) s1 n1 h1 cv1):q.1<p.1/\n<=q.1:=⟨by have:=T.ord;rw[List.pairwise_cons]at this;exact this.1 q sm,(T.hold q sm).2.2⟩
theorem St.l3 {p q r:Nat×aK}{Y:List (Nat×aK)}(T:St n h o pm im lv cv (p::q::r::Y) s1 n1 h1 cv1):r.1<q.1/\n<=r.1:=(T.sub (List.sublist_cons_self ..)).l2
theorem St.l4 {p q r u:Nat×aK}{Y:List (Nat×aK)}(T:St n h o pm im lv cv (p::q::r::u::Y) s1 n1 h1 cv1):u.1<r.1/\n<=u.1:=(T.sub (List.sublist_cons_self ..)).l3
theorem St.nx {nx:Nat}(T:St n h o pm im lv cv X s1 n1 h1 cv1)(hle:n<=nx)(hl:aE nx h1):St n h o pm im lv cv X s1 nx h1 cv1:=
 ⟨⟨hle,hl,T.rep,T.post.keep,T.post.own⟩,T.on,T.hold,T.ord⟩
theorem St.l5 {p q r u v:Nat×aK}{Y:List (Nat×aK)}(T:St n h o pm im lv cv (p::q::r::u::v::Y) s1 n1 h1 cv1):v.1<u.1/\n<=v.1:=(T.sub (List.sublist_cons_self ..)).l4
theorem St.o5 {a:Nat}{x:aK}{p q r u:Nat×aK}{Y:List (Nat×aK)}(T:St n h o pm im lv cv (p::q::r::u::(a,x)::Y) s1 n1 h1 cv1):Own o cv1 a=False:=eq_false (T.hold (a,x) sm).2.1
theorem St.holds (T:St n h o pm im lv cv X s1 n1 h1 cv1){Y:List (Nat×List AV)}(hY:∀ q ∈ Y,(q.1,aK.cells q.2) ∈ X):Holds Y o h1:=fun q M=>by
 obtain⟨a,b,_⟩:=T.hold _ (hY q M);exact⟨a,fun e=>b (.inl e)⟩
theorem St.ends {α:Type}{En:α->AV->Prop}{r:Jp α}{a:α}{v:AV}(T:St n h o pm im lv cv X s1 n1 h1 cv1)(hm:r=.ok (a,s1))(ev:En a v):Ends o pm im lv cv n En r (.returned v) h1:=.ok hm ev T.rep T.post.own
theorem St.call {α β:Type}{f:FuncId}{args:List AV}{m:P α}{En:α->AV->Prop}(M:aL Gl Gm Kp f args o pm im lv m En)(T:St n h o pm im lv cv X s1 n1 h1 cv1){ms:Jp β}{g:α->P β}(hm:ms=(m >>= g) s1)(ho:ms≠.error lT){Q:aS->Nat->Hp->Prop}
  (k1:∀ a s2 v n2 h2 cv2,ms=g a s2->En a v->n1<=n2->St n h o pm im lv cv X s2 n2 h2 cv2->Q (.returned v) n2 h2)
  (k2:∀ e,ms=.error e->∀ n2 h2,n1<=n2->aE n2 h2->Q (.panicked (iY e)) n2 h2):aG Tryz.prog Gl Gm Kp f args n1 h1 (fun t=>n<=t\/Own o cv t) Q:=
 M.use T.rep T.bound (fun U=>ho (hm.trans (P.err_bind U))) (fun a s2 e v n2 h2 cv2 ev O=>k1 a s2 v n2 h2 cv2 (hm.trans (P.ok_bind e)) ev O.le (T.step O))
  (fun e Y n2 h2 a b _=>k2 e (hm.trans (P.err_bind Y)) n2 h2 a b)
theorem qBs {β:Type}{f:FuncId}{args:List AV}{m:P β}{En:β->AV->Prop}(M:aL Gl Gm Kp f args o pm im lv m En)(T:St n h o pm im lv cv X s1 n1 h1 cv1){ms:Jp β}(hm:ms=m s1)(ho:ms≠.error lT){Q:aS->Nat->Hp->Prop}
  (k1:∀ a s2 v n2 h2 cv2,ms=.ok (a,s2)->En a v->n1<=n2->St n h o pm im lv cv X s2 n2 h2 cv2->Q (.returned v) n2 h2)
  (k2:∀ e,ms=.error e->∀ n2 h2,n1<=n2->aE n2 h2->Q (.panicked (iY e)) n2 h2):aG Tryz.prog Gl Gm Kp f args n1 h1 (fun t=>n<=t\/Own o cv t) Q:=
 M.use T.rep T.bound (fun U=>ho (hm.trans U)) (fun a s2 e v n2 h2 cv2 ev O=>k1 a s2 v n2 h2 cv2 (hm.trans e) ev O.le (T.step O))
  (fun e Y n2 h2 a b _=>k2 e (hm.trans Y) n2 h2 a b)
theorem qCo {α β:Type}{f:FuncId}{args:List AV}{m:P α}{En:α->AV->Prop}(M:aL Gl Gm Kp f args o pm im lv m En)(T:St n h o pm im lv cv X s1 n1 h1 cv1){ms:Jp β}{g:α->P β}(hm:ms=(m >>= g) s1)(ho:ms≠.error lT){Q:aS->Nat->Hp->Prop}
  (k1:∀ a s2 v n2 h2 cv2,ms=g a s2->En a v->n1<=n2->aE n2 h2->St n h o pm im lv cv X s2 n2 h2 cv2->Q (.returned v) n2 h2)
  (k2:∀ e,ms=.error e->∀ n2 h2,n1<=n2->aE n2 h2->(∀ t,t<n1->¬Own o cv1 t->h2.get t=h1.get t)->Q (.panicked (iY e)) n2 h2):aG Tryz.prog Gl Gm Kp f args n1 h1 (Own o cv1) Q:=
 M.use T.rep (fun t _ ht=>ht) (fun U=>ho (hm.trans (P.err_bind U))) (fun a s2 e v n2 h2 cv2 ev O=>k1 a s2 v n2 h2 cv2 (hm.trans (P.ok_bind e)) ev O.le O.lt (T.step O))
  (fun e Y n2 h2 a b c=>k2 e (hm.trans (P.err_bind Y)) n2 h2 a b c)
theorem qBx {f:FuncId}{args:List AV}{g:PS->AV}(M:Reads Gl Gm Kp f args o pm im lv g)(T:St n h o pm im lv cv X s1 n1 h1 cv1){B:Nat->Prop}{Q:aS->Nat->Hp->Prop}
  (k:∀ n2 h2,n1<=n2->St n h o pm im lv cv X s1 n2 h2 cv1->Q (.returned (g s1)) n2 h2):aG Tryz.prog Gl Gm Kp f args n1 h1 B Q:=
 (M _ _ _ _ T.rep _ fun n2 h2 a b c=>k n2 h2 a (T.quiet a b c)).mono (fun _ _ h=>h.elim) fun _ _ _ _ _ _ h=>h
theorem aA.st {f:FuncId}{args:List AV}{B:Nat->Prop}{Q t}(T:St n h o pm im lv cv X s1 n1 h1 cv1)(k:∀ hX,St n h o pm im lv cv X s1 n1 hX cv1->aA Tryz.prog Gl Gm Kp f args n1 hX B Q t):aA Tryz.prog Gl Gm Kp f args n1 h1 B Q t:=k h1 T
theorem aZ.st {f:FuncId}{args:List AV}{B:Nat->Prop}{Q t}(T:St n h o pm im lv cv X s1 n1 h1 cv1)(k:∀ hX,St n h o pm im lv cv X s1 n1 hX cv1->aZ Tryz.prog Gl Gm Kp f args n1 hX B Q t):aZ Tryz.prog Gl Gm Kp f args n1 h1 B Q t:=k h1 T
theorem aA.stx {f:FuncId}{args:List AV}{B:Nat->Prop}{Q t}(T:aE n1 h1->St n h o pm im lv cv X s1 n1 h1 cv1)(k:∀ hX,St n h o pm im lv cv X s1 n1 hX cv1->aA Tryz.prog Gl Gm Kp f args n1 hX B Q t):aA Tryz.prog Gl Gm Kp f args n1 h1 B Q t:=
 qCK ⟨fun M=>aG.ok (k h1 (T M)) M⟩
theorem aL.st {α:Type}{f:FuncId}{args:List AV}{m:P α}{En:α->AV->Prop}
  (w:∀ n h cv s,St n h o pm im lv cv [] s n h cv->m s≠.error lT->aG Tryz.prog Gl Gm Kp f args n h (Own o cv) fun e _ h'=>Ends o pm im lv cv n En (m s) e h'):aL Gl Gm Kp f args o pm im lv m En:=
 aL.fin fun n h cv s R M O=>w n h cv s (.start R M) O
theorem iL.st {α:Type}{Z:List (Nat×List AV)}{f:FuncId}{args:List AV}{m:P α}{En:α->AV->Prop}
  (w:∀ n h cv s,St n h o pm im lv cv [] s n h cv->Holds Z o h->aE n h->m s≠.error lT->aG Tryz.prog Gl Gm Kp f args n h (Own o cv) fun e _ h'=>Ends o pm im lv cv n En (m s) e h'):iL Gl Gm Kp Z f args o pm im lv m En:=
 iL.fin fun n h cv s R H M O=>w n h cv s (.start R M) H M O
theorem St.outer {Z:List (Nat×List AV)}(T:St n h o pm im lv cv X s1 n1 h1 cv1)(H:Holds Z o h)(R:eB h o pm im lv cv s)(hl:aE n h):Holds Z o h1:=H.post R hl T.post.keep
theorem St.take (S:Seat Gm Kp){β:Type}{w:List UInt8}(T:St n h o pm im lv cv X s1 n1 h1 cv1){ms:Jp β}{g:Bool->P β}(hm:ms=(P.take w >>= g) s1){Q:aS->Nat->Hp->Prop}
  (k1:∀ s2 n2 h2 cv2,ms=g true s2->n1<=n2->St n h o pm im lv cv X s2 n2 h2 cv2->Q (.returned (.bool true)) n2 h2)
  (k2:∀ s2 n2 h2 cv2,ms=g false s2->n1<=n2->St n h o pm im lv cv X s2 n2 h2 cv2->Q (.returned (.bool false)) n2 h2):aG Tryz.prog Gl Gm Kp 144 [.ref o 0,.str w] n1 h1 (fun t=>n<=t\/Own o cv t) Q:=
 (sV S w).use T.rep T.bound (by simp[P.take];split<;>simp) (fun b s2 e v n2 h2 cv2 ev M=>by
  simp only[MH]at ev;subst ev;cases b with
  |true=>exact k1 s2 n2 h2 cv2 (hm.trans (P.ok_bind e)) M.le (T.step M)
  |false=>exact k2 s2 n2 h2 cv2 (hm.trans (P.ok_bind e)) M.le (T.step M)) (fun e O=>by
  simp only[P.take]at O;split at O<;>cases O)
theorem P.more_len {α:Type}{one:P α}:∀(f:Nat) (l:List α) (s:PS) {l':List α}{s':PS},P.more one f l s=.ok (l',s')->l'.length<=l.length+f
 |0,l,s,l',s',h=>by cases h
 |f+1,l,s,l',s',h=>by
  unfold P.more at h;cases ht:P.take [44] s with
  |error e=>rw[P.err_bind ht]at h;cases h
  |ok q=>
   obtain⟨b,s1⟩:=q;rw[P.ok_bind ht]at h;cases b with
   |false=>replace h:=nf h;cases h;omega
   |true=>
    replace h:=nt h;cases h1:one s1 with
    |error e=>rw[P.err_bind h1]at h;cases h
    |ok q=>
     obtain⟨x,s2⟩:=q;rw[P.ok_bind h1]at h;have:=P.more_len f (l++[x]) s2 h;simp at this;omega
theorem P.more_ge {α:Type}{one:P α}:∀(f:Nat) (l:List α) (s:PS) {l':List α}{s':PS},P.more one f l s=.ok (l',s')->l.length<=l'.length
 |0,l,s,l',s',h=>by cases h
 |f+1,l,s,l',s',h=>by
  unfold P.more at h;cases ht:P.take [44] s with
  |error e=>rw[P.err_bind ht]at h;cases h
  |ok q=>
   obtain⟨b,s1⟩:=q;rw[P.ok_bind ht]at h;cases b with
   |false=>replace h:=nf h;cases h;omega
   |true=>
    replace h:=nt h;cases h1:one s1 with
    |error e=>rw[P.err_bind h1]at h;cases h
    |ok q=>
     obtain⟨x,s2⟩:=q;rw[P.ok_bind h1]at h;have:=P.more_ge f (l++[x]) s2 h;simp at this;omega
theorem P.listed_ge {α:Type}{one:P α}{f:Nat}{s:PS}{l':List α}{s':PS}(h:P.listed f one s=.ok (l',s')):1<=l'.length:=by
 unfold P.listed at h;cases h1:one s with
 |error e=>rw[P.err_bind h1]at h;cases h
 |ok q=>
  obtain⟨x,s2⟩:=q;rw[P.ok_bind h1]at h;have:=P.more_ge f [x] s2 h;simpa using this
theorem qCl {α:Type}{one:P α}{f:Nat}{s:PS}{l':List α}{s':PS}(h:P.listed f one s=.ok (l',s')):l'.length<=f+1:=by
 unfold P.listed at h;cases h1:one s with
 |error e=>rw[P.err_bind h1]at h;cases h
 |ok q=>
  obtain⟨x,s2⟩:=q;rw[P.ok_bind h1]at h;have:=P.more_len f [x] s2 h;simp at this;omega
theorem St.listed (S:Seat Gm Kp)(hk:Kp 146=(true,false)){β:Type}{Z:List (Nat×List AV)}{g:FuncId}{a c:List AV}{m:P Node}(M:iL Gl Gm Kp Z g (a++c) o pm im lv m EN)(hca:∀ args,aT Tryz.prog g args=.ret (.enter g args))(f:Nat)(hf:f<1000000000)
  (T:St n h o pm im lv cv X s1 n1 h1 cv1) (H:Holds Z o h1) {ms:Jp β}{k:List Node->P β} (hm:ms=(P.listed f m >>= k) s1) (ho:ms≠.error lT) {Q:aS->Nat->Hp->Prop}
  (k1:∀ l s2 xs n2 h2 cv2,ms=k l s2->EV l xs->n1<=n2->1<=xs.length/\xs.length<=f+1->St n h o pm im lv cv X s2 n2 h2 cv2->Q (.returned (.vec xs 8 true)) n2 h2)
  (k2:∀ l s2 xs b n2 h2 cv2,ms=k l s2->EV l xs->n1<=n2->xs.length<=f+1->n1<=b/\2<=xs.length->St n h o pm im lv cv ((b,.arr 8 xs)::X) s2 n2 h2 cv2->Q (.returned (.sl b 0 xs.length)) n2 h2)
  (k3:∀ e,ms=.error e->∀ n2 h2,n1<=n2->aE n2 h2->Q (.panicked (iY e)) n2 h2):aG Tryz.prog Gl Gm Kp 146 [.ref o 0,.fn (.func g) a c] n1 h1 (fun t=>n<=t\/Own o cv t) Q:=
 (xY S hk M hca f hf T.rep H (fun hc=>ho (hm.trans (P.err_bind hc))) (fun l s2 e v w n2 h2 cv2 ev hw P2 a2=>by
  have U:=hm.trans (P.ok_bind e);have O:=T.step P2;cases ev with
  |vec ee=>exact k1 l s2 _ n2 h2 cv2 U ee P2.le (by rw[ee.length];exact⟨P.listed_ge e,qCl e⟩) O
  |arr hx ee=>
   rename_i b xs;obtain⟨hb,a1⟩:=hw b rfl;rw[<- ee.length];refine k2 l s2 xs b n2 h2 cv2 U ee P2.le (by rw[ee.length];exact qCl e) ⟨hb,by rw[ee.length];exact a2 (fun h=>by cases h)⟩ ⟨O.post,O.on,fun q Y=>?_,.cons (fun q Y=>Nat.lt_of_lt_of_le (T.below q Y) hb) O.ord⟩;rcases List.mem_cons.1 Y with rfl | Y
   .exact⟨hx,a1,Nat.le_trans T.le hb⟩
   .exact O.hold q Y) (fun e he n2 h2 a b _=>k3 e (hm.trans (P.err_bind he)) n2 h2 a b)).mono T.bound fun _ _ _ _ _ _ h=>h
theorem qCc {h:Hp}{l:List Node}{xs:List AV}{a:Nat}(e:EV l xs)(hx:h.get a=some (.arr 8 xs)):OV h l (.sl a 0 xs.length) (some a):=by
 have:=(Jr.arr hx e).elh
 rwa [<- e.length]at this
theorem EV.whole:∀{l:List Node}{xs:List AV},EV l xs->xs.all AV.whole=true
 |_,_,.nil=>rfl
 |_,_,.cons h t=>by
  obtain⟨cs,rfl,_,M,_⟩:=h.shape;rw[List.all_cons,t.whole,aB,M]
  rfl
theorem EV.app {h:Hp}{l:List Node}{xs:List AV}{a:Nat}{y:Node}{v:AV}(e:EV l xs)(ey:EN y v)(ha:h.get a=some (.arr 8 (xs++[v]))):OV h (l++[y]) (.sl a 0 (xs.length+1)) (some a):=(Jr.app e ey ha).elh
def bC (k n:Int)(s:List UInt8)(lv:AV):List AV:=[.int .i64 k,.int .i64 n,.str s,.bool false,.sl0,lv,.int .i64 0,.int .i64 0]
theorem qBu (S:Seat Gm Kp){β:Type}{nd:Node}{v:AV}{a:Nat}{x:aK}{fr:Int}(T:St n h o pm im lv cv ((a,x)::X) s1 n1 h1 cv1)(hv:TB h1 nd v (some a)){ms:Jp β}{k:Node->P β}(hm:ms=(P.done nd fr >>= k) s1)(ho:ms≠.error lT){Q:aS->Nat->Hp->Prop}
  (k1:∀ nd' v' n2 h2,ms=k nd' s1->EN nd' v'->n1<=n2->St n h o pm im lv cv X s1 n2 h2 cv1->Q (.returned v') n2 h2):aG Tryz.prog Gl Gm Kp 145 [.ref o 0,v,.int .i64 fr] n1 h1 (fun t=>n<=t\/Own o cv t) Q:=by
 obtain⟨_,hb,U⟩:=T.hold (a,x) sm;have M:=T.ord;rw[List.pairwise_cons]at M;refine(vN S T.rep hv (fun b Y=>by cases Y;exact hb) fr (fun U=>ho (hm.trans (P.err_bind U))) fun nd' e v' n2 h2 ev O a1 hk R2=>?_).mono (fun t _ ht=>by cases ht;exact .inl U) fun _ _ _ _ _ _ h=>h;refine k1 nd' v' n2 h2 (hm.trans (P.ok_bind e)) ev O ⟨⟨Nat.le_trans T.le O,a1,R2,fun t ht hn=>?_,T.post.own⟩,T.on,fun q hq=>?_,M.2⟩
 .have:=T.le;simp only at U;rw[hk t om (fun e=>by cases e;omega)];exact T.post.keep t ht hn
 .obtain⟨u,v,w⟩:=T.hold q (List.mem_cons_of_mem _ hq);have h3:=M.1 q hq;have h4:=T.below _ (List.mem_cons_of_mem _ hq);simp only at h3;exact⟨(hk q.1 h4 (fun e=>by cases e;omega)).trans u,v,w⟩
theorem P.bind_pure {α:Type}(x:P α):(x >>= P.pure)=x:=by
 funext s
 show P.bind x P.pure s=x s;unfold P.bind P.pure;cases x s with
 |ok q=>rfl
 |error e=>rfl
theorem qBt {α β:Type}{f:FuncId}{args:List AV}{m:P α}{En:α->AV->Prop}(M:aL Gl Gm Kp f args o pm im lv m En)(T:St n h o pm im lv cv X s1 n1 h1 cv1){ms:Jp β}{g:α->P β}(hm:ms=(m >>= g) s1)(ho:ms≠.error lT){Q:aS->Nat->Hp->Prop}{t}
  (k1:∀ a s2 v n2 h2 cv2,ms=g a s2->En a v->n1<=n2->St n h o pm im lv cv X s2 n2 h2 cv2->n<=n2->s2.l.length<1000000000->Q (.returned v) n2 h2)
  (k2:∀ e,ms=.error e->∀ n2 h2,n1<=n2->aE n2 h2->Q (.panicked (iY e)) n2 h2:=by intro e he n2 h2 _ _;simp -dsimp (disch:=first | assumption | omega) only [go_sem,Nat.reduceLT,Nat.reduceBEq,Nat.reduceAdd,Nat.reduceSub,Nat.reduceLeDiff,Nat.reduceEqDiff,↓reduceIte,beq_true,beq_false,decide_eq_true,decide_eq_false];exact qC9<|.err he):aA Tryz.prog Gl Gm Kp f args n1 h1 (fun t=>n<=t\/Own o cv t) Q t:=
 qCK (St.call M T hm ho (fun a s2 v n2 h2 cv2 e ev U O=>k1 a s2 v n2 h2 cv2 e ev U O O.le O.rep.len) k2)
theorem qBr {β:Type}{f:FuncId}{args:List AV}{m:P β}{En:β->AV->Prop}(M:aL Gl Gm Kp f args o pm im lv m En)(T:St n h o pm im lv cv X s1 n1 h1 cv1){ms:Jp β}(hm:ms=m s1)(ho:ms≠.error lT){Q:aS->Nat->Hp->Prop}{t}
  (k1:∀ a s2 v n2 h2 cv2,ms=.ok (a,s2)->En a v->n1<=n2->St n h o pm im lv cv X s2 n2 h2 cv2->n<=n2->s2.l.length<1000000000->Q (.returned v) n2 h2)
  (k2:∀ e,ms=.error e->∀ n2 h2,n1<=n2->aE n2 h2->Q (.panicked (iY e)) n2 h2:=by intro e he n2 h2 _ _;simp -dsimp (disch:=first | assumption | omega) only [go_sem,Nat.reduceLT,Nat.reduceBEq,Nat.reduceAdd,Nat.reduceSub,Nat.reduceLeDiff,Nat.reduceEqDiff,↓reduceIte,beq_true,beq_false,decide_eq_true,decide_eq_false];exact qC9<|.err he):aA Tryz.prog Gl Gm Kp f args n1 h1 (fun t=>n<=t\/Own o cv t) Q t:=
 qCK (qBs M T hm ho (fun a s2 v n2 h2 cv2 e ev U O=>k1 a s2 v n2 h2 cv2 e ev U O O.le O.rep.len) k2)
theorem qBv {α β:Type}{f:FuncId}{args:List AV}{m:P α}{En:α->AV->Prop}(M:aL Gl Gm Kp f args o pm im lv m En)(T:St n h o pm im lv cv X s1 n1 h1 cv1){ms:Jp β}{g:α->P β}(hm:ms=(m >>= g) s1)(ho:ms≠.error lT){p:Prop}(F:p){Q:(Nat->Prop)->aS->Nat->Hp->Prop}{t}
  (k1:∀ a s2 v n2 h2 cv2,ms=g a s2->En a v->n1<=n2->aE n2 h2->St n h o pm im lv cv X s2 n2 h2 cv2->n<=n2->s2.l.length<1000000000->Q (Own o cv1) (.returned v) n2 h2)
  (k2:p->∀ e,ms=.error e->∀ n2 h2,n1<=n2->aE n2 h2->(∀ t,t<n1->¬Own o cv1 t->h2.get t=h1.get t)->Q (Own o cv1) (.panicked (iY e)) n2 h2:=by intro F e he nE hE hleE hltE hkE;(refine fC (by(repeat (first | (refine qCJ om ?_) | (simp -dsimp (disch:=first | assumption | omega) only [go_sem,Nat.reduceLT,Nat.reduceBEq,Nat.reduceAdd,Nat.reduceSub,Nat.reduceLeDiff,Nat.reduceEqDiff,↓reduceIte,beq_true,beq_false,decide_eq_true,decide_eq_false,F,not_false_eq_true])))) ?_);(repeat (refine fW rfl ?_));(repeat (first | (refine qCJ om ?_) | (simp -dsimp (disch:=first | assumption | omega) only [go_sem,Nat.reduceLT,Nat.reduceBEq,Nat.reduceAdd,Nat.reduceSub,Nat.reduceLeDiff,Nat.reduceEqDiff,↓reduceIte,beq_true,beq_false,decide_eq_true,decide_eq_false,F,not_false_eq_true])));unfold gN;intro nx h' _ _ _;(simp -dsimp (disch:=first | assumption | omega) only [go_sem,Nat.reduceLT,Nat.reduceBEq,Nat.reduceAdd,Nat.reduceSub,Nat.reduceLeDiff,Nat.reduceEqDiff,↓reduceIte,beq_true,beq_false,decide_eq_true,decide_eq_false]);exact qC9<|.err he):aZ Tryz.prog Gl Gm Kp f args n1 h1 (fun t=>n<=t\/Own o cv t) Q t:=
 qCN (Own o _) T.bound (qCo M T hm ho (fun a s2 v n2 h2 cv2 e ev U Y O=>k1 a s2 v n2 h2 cv2 e ev U Y O O.le O.rep.len) (k2 F))
theorem St.hd (T:St n h o pm im lv cv X s1 n1 h1 cv1):o<n/\aE n1 h1/\s1.l.length<1000000000/\s1.pos<=s1.l.length:=⟨T.on,T.lt,T.rep.len,T.rep.pos⟩
theorem EN.sh {x:Node}{v:AV}(e:EN x v):∃ cs,v=.agg cs/\cs.length=8/\cs.all AV.one=true/\jG cs=true/\List.take 8 cs=cs/\EN x v:=by
 obtain⟨cs,h1,h2,M,O⟩:=e.shape;exact⟨cs,h1,h2,M,O,List.take_of_length_le om,e⟩
def qCE:=@bC.eq_1
end
section
variable (Gl:qC6)(Gm:qC7)(Kp:qC8)
def cD (f:FuncId)(args:List AV)(v:AV):Prop:=
 ∀(n:Nat) (h:Hp) (Q:aS->Nat->Hp->Prop),(∀ n' h',n<=n'->aE n' h'->(∀ t,t<n->h'.get t=h.get t)->Q (.returned v) n' h')->aG Tryz.prog Gl Gm Kp f args n h (fun _=>False) Q
end
section
variable {Gl:qC6}{Gm:qC7}{Kp:qC8}(S:Seat Gm Kp)
theorem cD.fin {f:FuncId}{args:List AV}{v:AV}(w:∀ n h,aE n h->aG Tryz.prog Gl Gm Kp f args n h (fun _=>False) fun e _ _=>e=.returned v):cD Gl Gm Kp f args v:=
 fun n h Q O=>⟨fun M=>((w n h M).mono (fun _ _ h=>h) fun e n' h' a b c d=>by subst d;exact O n' h' a b fun t U=>c t U id).ok M⟩
theorem cD.use {f:FuncId}{args:List AV}{v:AV}(p:cD Gl Gm Kp f args v){n:Nat}{h:Hp}{B:Nat->Prop}{Q:aS->Nat->Hp->Prop}(hQ:∀ n' h',n<=n'->aE n' h'->(∀ t,t<n->h'.get t=h.get t)->Q (.returned v) n' h'):aG Tryz.prog Gl Gm Kp f args n h B Q:=
 (p n h Q hQ).mono (fun _ _ h=>h.elim) fun _ _ _ _ _ _ h=>h
include S
theorem Zo (b:UInt8):cD Gl Gm Kp 312 [.int .u8 b.toNat] (.bool (vY b)):=by
 refine cD.fin fun n h _=>qB6 S 17 [.tmp 2] Tryz.func312 fun _ _=>?_;unfold vY;by_cases h1:b.toNat=32
 .refine zz ?_;exact qCI fun _ _ _=>by simp[h1]
 by_cases h2:b.toNat=9
 .refine zz ?_;exact qCI fun _ _ _=>by simp[h2]
 by_cases M:b.toNat=10
 .refine zz ?_;exact qCI fun _ _ _=>by simp[M]
 by_cases O:b.toNat=13
 .refine zz ?_;exact qCI fun _ _ _=>by simp[O]
 .refine zz ?_;exact qCI fun _ _ _=>by simp[h1,h2,M,O]
theorem sH (r:Nat)(hr:r<2147483648):cD Gl Gm Kp 329 [.int .i32 r] (.bool ((decide (65<=r)&&decide (r<=90)) || (decide (97<=r)&&decide (r<=122)))):=by
 refine cD.fin fun n h _=>qB6 S 17 [.tmp 2] Tryz.func329 fun _ _=>?_;by_cases h1:65<=r
 .by_cases h2:r<=90
  .refine zz ?_;exact qCI fun _ _ _=>by simp[h1,h2]
  .by_cases M:97<=r
   .by_cases O:r<=122
    .refine zz ?_;exact qCI fun _ _ _=>by simp[M,O]
    .refine zz ?_;exact qCI fun _ _ _=>by simp[h2,O]
   .refine zz ?_;exact qCI fun _ _ _=>by simp[h2,M]
 .have M:¬97<=r:=om;refine zz ?_;exact qCI fun _ _ _=>by simp[h1,M]
theorem Bl (b:UInt8):cD Gl Gm Kp 357 [.int .u8 b.toNat] (.bool (cW b)):=by
 refine cD.fin fun n h _=>qB6 S 6 [.tmp 2] Tryz.func357 fun _ _=>?_;have hb:=b.toNat_lt;refine zz ?_;refine qCK ((sH S b.toNat om).use fun n1 h1 _ _ _=>?_);refine zz ?_;exact qC9<|rfl
theorem jW (b:UInt8):cD Gl Gm Kp 358 [.int .u8 b.toNat] (.bool (gI b)):=by
 refine cD.fin fun n h _=>qB6 S 9 [.tmp 2] Tryz.func358 fun _ _=>?_;unfold gI;by_cases h1:48<=b.toNat
 .by_cases h2:b.toNat<=57
  .refine zz ?_;exact qCI fun _ _ _=>by simp[h1,h2]
  .refine zz ?_;exact qCI fun _ _ _=>by simp[h2]
 .refine zz ?_;exact qCI fun _ _ _=>by simp[h1]
theorem Vv (b:UInt8):cD Gl Gm Kp 318 [.int .u8 b.toNat] (.bool (jC b)):=by
 refine cD.fin fun n h _=>qB6 S 13 [.tmp 2] Tryz.func318 fun _ _=>?_;unfold jC;refine zz ?_;refine qCK ((Bl S b).use fun n1 h1 _ _ _=>?_);cases hL:cW b with
 |true=>
  refine zz ?_;exact qC9<|rfl
 |false=>
  refine zz ?_;refine qCK ((jW S b).use fun n2 h2 _ _ _=>?_);cases hD:gI b with
  |true=>
   refine zz ?_;exact qC9<|rfl
  |false=>
   by_cases M:b.toNat=95
   .refine zz ?_;exact qCI fun _ _ _=>by simp[M]
   .refine zz ?_;exact qCI fun _ _ _=>by simp[M]
theorem MY (b:UInt8):cD Gl Gm Kp 315 [.int .u8 b.toNat] (.bool (decide (b.toNat≠10))):=by
 refine cD.fin fun n h _=>qB6 S 5 [.tmp 2] Tryz.func315 fun _ _=>?_;by_cases h1:b.toNat=10
 .refine zz ?_;exact qCI fun _ _ _=>by simp[h1]
 .refine zz ?_;exact qCI fun _ _ _=>by simp[h1]
theorem PW (b:UInt8):cD Gl Gm Kp 323 [.int .u8 b.toNat] (.bool (decide (b.toNat=45))):=by
 refine cD.fin fun n h _=>qB6 S 5 [.tmp 2] Tryz.func323 fun _ _=>?_;by_cases h1:b.toNat=45
 .refine zz ?_;exact qCI fun _ _ _=>by simp[h1]
 .refine zz ?_;exact qCI fun _ _ _=>by simp[h1]
theorem ES (b:UInt8):cD Gl Gm Kp 324 [.int .u8 b.toNat] (.bool (decide (b.toNat=61))):=by
 refine cD.fin fun n h _=>qB6 S 5 [.tmp 2] Tryz.func324 fun _ _=>?_;by_cases h1:b.toNat=61
 .refine zz ?_;exact qCI fun _ _ _=>by simp[h1]
 .refine zz ?_;exact qCI fun _ _ _=>by simp[h1]
omit S in
theorem Ee (p s:List UInt8):p.isPrefixOf s=(List.take p.length s==p):=by
 rw[Bool.eq_iff_iff,List.isPrefixOf_iff_prefix,List.prefix_iff_eq_take,beq_iff_eq];exact⟨Eq.symm,Eq.symm⟩
theorem Hq (s p:List UInt8):cD Gl Gm Kp 165 [.str s,.str p] (.bool (p.isPrefixOf s)):=by
 refine cD.fin fun n h _=>qB6 S 18 [.tmp 4] Tryz.func165 fun _ _=>?_;by_cases h1:p.length<=s.length
 .refine x1 @Nat.sub_zero ?_;exact qCI fun _ _ _=>by rw[Ee]
 .refine zz ?_;refine qCI fun _ _ _=>?_;have:p.isPrefixOf s=false:=by
   cases hc:p.isPrefixOf s with
   |false=>rfl
   |true=>exact absurd (List.isPrefixOf_iff_prefix.1 hc).length_le h1
  rw[this]
theorem sF (s p:List UInt8):cD Gl Gm Kp 106 [.str s,.str p] (.bool (p.isPrefixOf s)):=by
 refine cD.fin fun n h _=>qB6 S 8 [.tmp 4] Tryz.func106 fun _ _=>?_;refine zz ?_;refine qCK ((Hq S s p).use fun n1 h1 _ _ _=>?_);refine zz ?_;exact qC9<|rfl
theorem tM {o:Nat}{w:List UInt8}{pos:Nat}{x2 x3 x4:AV}(p:List UInt8)(hpos:pos<=w.length){n:Nat}{h:Hp}(hw:h.get o=some (.cells [.str w,.int .i64 pos,x2,x3,x4])){B:Nat->Prop}{Q:aS->Nat->Hp->Prop}
  (hQ:∀ n' h',n<=n'->aE n' h'->(∀ t,t<n->h'.get t=h.get t)->Q (.returned (.bool (jE w pos p))) n' h'):aG Tryz.prog Gl Gm Kp 313 [.ref o 0,.str p] n h B Q:=by
 refine aG.mono (B:=fun _=>False) (Q:=fun e _ _=>e=.returned (.bool (jE w pos p))) ?_ (fun _ _ h=>h.elim) (fun e n' h' a b c d=>by subst d;exact hQ n' h' a b fun t O=>c t O id);refine qB6 S 16 [.tmp 4] Tryz.func313 fun _ _=>?_;refine zz ?_;refine qCP [] [] kr ?_;have M:List.take (w.length-pos) (List.drop pos w)=List.drop pos w:=List.take_of_length_le sm;refine z2 hw M ?_;refine qCN (fun _=>False) (fun _ _ h=>h.elim) ((sF S _ p).use fun n1 h1 _ _ _=>?_);refine gg ?_;refine qCT fun nx _ _=>?_;refine zz ?_;exact qC9<|rfl
theorem lC {o:Nat}{w:List UInt8}{pos:Nat}{x2 x3 x4:AV}(k:Nat)(hb:pos+k<9000000000000000000)(hwl:w.length<9000000000000000000){n:Nat}{h:Hp}(hw:h.get o=some (.cells [.str w,.int .i64 pos,x2,x3,x4])){B:Nat->Prop}{Q:aS->Nat->Hp->Prop}
  (hQ:∀ n' h',n<=n'->aE n' h'->(∀ t,t<n->h'.get t=h.get t)->Q (.returned (.int .u8 (bG w (pos+k)).toNat)) n' h'):aG Tryz.prog Gl Gm Kp 317 [.ref o 0,.int .i64 k] n h B Q:=by
 refine aG.mono (B:=fun _=>False) (Q:=fun e _ _=>e=.returned (.int .u8 (bG w (pos+k)).toNat)) ?_ (fun _ _ h=>h.elim) (fun e n' h' a b c d=>by subst d;exact hQ n' h' a b fun t Y=>c t Y id);refine qB6 S 28 [.tmp 4] Tryz.func317 fun _ _=>?_;refine zz ?_;refine qCP [] [] kr ?_;by_cases O:pos+k<w.length
 .have U:w[pos+k]?=some w[pos+k]:=List.getElem?_eq_getElem O;have M:bG w (pos+k)=w[pos+k]:=(by simp[bG,List.getD,U]);refine g2 hw U ?_;refine qCP [] [] kr ?_;refine g2 hw U ?_;exact qCI fun _ _ _=>by rw[M]
 .have M:bG w (pos+k)=0:=(by simp[bG,List.getD,List.getElem?_eq_none (Nat.le_of_not_lt O)]);refine g1 hw ?_;exact qCI fun _ _ _=>by rw[M];rfl
omit S in
theorem Cu {w:List UInt8}{i k:Nat}{q:UInt8->Bool}(hlt:i+k<w.length)(hq:q w[i+k]=true):((w.drop (i+k)).takeWhile q).length=1+((w.drop (i+(k+1))).takeWhile q).length:=by
 rw[List.drop_eq_getElem_cons hlt,List.takeWhile_cons,hq];simp only[if_true,List.length_cons];rw[Nat.add_comm,Nat.add_assoc]
omit S in
theorem Cv {w:List UInt8}{i k:Nat}{q:UInt8->Bool}(hlt:i+k<w.length)(hq:q w[i+k]=false):((w.drop (i+k)).takeWhile q).length=0:=by
 rw[List.drop_eq_getElem_cons hlt,List.takeWhile_cons,hq]
 rfl
theorem pY {o:Nat}{w:List UInt8}{pos:Nat}{x2 x3 x4:AV}(k:Nat){F:FuncId}{q:UInt8->Bool}(hF:∀ b:UInt8,cD Gl Gm Kp F [.int .u8 b.toNat] (.bool (q b)))(hca:∀ args,aT Tryz.prog F args=.ret (.enter F args))(hb:pos+k<1000000000000)(hwl:w.length<1000000000000){n:Nat}{h:Hp}(hw:h.get o=some (.cells [.str w,.int .i64 pos,x2,x3,x4])){B:Nat->Prop}{Q:aS->Nat->Hp->Prop}
  (hQ:∀ n' h',n<=n'->aE n' h'->(∀ t,t<n->h'.get t=h.get t)->Q (.returned (.int .i64 (dA w (pos+k) q))) n' h'):aG Tryz.prog Gl Gm Kp 314 [.ref o 0,.int .i64 k,.fn (.func F) [] []] n h B Q:=by
 refine aG.mono (B:=fun _=>False) (Q:=fun e _ _=>e=.returned (.int .i64 (dA w (pos+k) q))) ?_ (fun _ _ h=>h.elim) (fun e n' h' a b c d=>by subst d;exact hQ n' h' a b fun t ht=>c t ht id);refine qB6 S 42 [.tmp 6] Tryz.func314 fun _ hl=>?_;have Y:=aN hl hw;refine zz ?_;refine qCu (fun m E nn hh=>∃ j:Nat,E=[(0,.ref o 0),(1,.int .i64 k),(2,.fn (.func F) [] []),(7,.int .i64 j)]/\dA w (pos+k) q=j+((w.drop (pos+k+j)).takeWhile q).length/\j+m=w.length+1/\n<=nn/\∀ t,t<n->hh.get t=h.get t) (w.length+1) ⟨0,rfl,by simp[dA],by omega,Nat.le_refl _,fun _ _=>rfl⟩ ?_
 .rintro m E nn hh hlk hBk ⟨j,rfl,hr,hjm,hnn,hkk⟩;have O:=(hkk o Y).trans hw;refine zz ?_;refine qCP [] [] kr ?_;by_cases M:pos+k+j<w.length
  .have hg:w[pos+k+j]?=some w[pos+k+j]:=List.getElem?_eq_getElem M;refine u3 O hg hca ?_;refine qCN (fun _=>False) (fun _ _ h=>h.elim) ((hF w[pos+k+j]).use fun n1 h1 _ _ U=>?_);cases hq:q w[pos+k+j] with
   |true=>
    refine gg ?_;refine qCT fun nx a1 a2=>?_;refine zz ?_;refine aU.mq (m-1) ⟨j+1,rfl,by rw[hr,Cu M hq];omega,by omega,by omega,fun t ht=>(U t om).trans (hkk t ht)⟩
   |false=>
    refine gg ?_;refine qCT fun nx a1 a2=>?_;refine zz ?_;exact qCI fun _ _ _=>by rw[hr,Cv M hq];rfl
  .refine g1 O ?_;exact qCI fun _ _ _=>by rw[hr,List.drop_of_length_le om];rfl
theorem PC (hk:Kp 146=(true,false)){o pm im:Nat}{lv:AV}(f:Nat)(hf:f<1000000000)(Me:aL Gl Gm Kp 76 [.ref o 0] o pm im lv (cS f) EN):aL Gl Gm Kp 294 [.ref o 0] o pm im lv (nG (f+1)) EN:=by
 refine aL.st fun n h cv s T0 ho=>qB6 S 36 [.cell 2 32] Tryz.func294 fun _ _=>?_;have bh:=congrFun (nG.eq_2 f) s;obtain⟨_,_,_,_⟩:=T0.hd;refine zz ?_;refine aA.st (T0.cell (.cells cC)) fun _ T1=>?_;refine qCK (qBx (iK S) T1 fun n2 h2 _ T2=>?_);have bi:=bh.trans (P.ok_bind (x:=P.begin) rfl);refine zz ?_;refine aA.st (T2.newc _ (.cells (bC 26 0 [] .sl0))) fun _ T3=>?_;refine qCK (St.take S T3 bi ?_ ?_)
 .intro s4 n4 h4 bc ah ba T4;replace ah:=nt ah;refine z2 T4.g1 @qCE ?_;refine aA.st (T4.set1 (.cells (bC 26 1 [] .sl0))) fun _ T5=>?_;refine qCK (St.listed S hk (Z:=[]) (a:=[.ref o 0]) (c:=[]) ((oE S).x []) (fun _=>rfl) f hf T5 Holds.nil ah ho ?_ ?_ fun e he n2 h2 _ _=>by(refine zz ?_);exact qC9<|.err he)
  .intro l s6 xs n6 h6 b1 ai aa au b8 T6;refine z2 T6.g1 @qCE ?_;refine aA.st (T6.set1 (.cells (bC 26 1 [] (.vec xs 8 true)))) fun hD T7=>?_;refine qBt (bL S [62,62]) T7 ai ho ?_;intro u s8 v8 n8 h8 bd aj be bb T8 bj bg;refine zz ?_;refine qBt (bL S [92,105,110]) T8 aj ho ?_;intro u s9 v9 n9 h9 b2 ak b3 aw T9 b7 b6;refine zz ?_;have M:=aM (xs.length+1) 104 om om;refine qCP [(1,3)] [] kr ?_;refine z2 T9.g1 @qCE ?_;refine qBv (Me) T9 ak ho T9.o1 ?_;intro b0 s10 Dg n10 b4 ao a7 a3 ac ae Y ax ap;obtain⟨a2,rfl,a6,a5,ar,ay,a9⟩:=a3.sh;refine z1 T9.o1 ?_;refine qCJ om ?_;refine z6 a6 a5 @aB M Y.g1 @qCE ?_;refine qCT fun az al an=>?_;refine zz ?_;refine aA.stx (fun ag=>(((Y.cell (.arr 8 (xs++[AV.agg a2]))).set2 (.cells (bC 26 1 [] (.sl n10 0 (xs.length+1)))))).nx om ag) fun hE a1=>?_;refine qCK (qBu S (k:=P.pure) a1 (.mk rfl rfl (EV.app aa a9 a1.g1)) (a7.trans (congrFun (P.bind_pure _).symm _)) ho fun b9 v' n12 b5 a8 a4 ad O=>?_);cases a4 with
   |mk hd hone hl'=>
   have U:=hl'.one;have ab:=hl'.flat;refine z8 O.g1 O.g2 @qCE @qCD hd hone U ab ?_;exact qC9<|(O.set2 _).ends (a8) (.mk hd hone hl')
  .intro l s6 xs b n6 h6 b1 ai aa au b8 hb T6;refine z2 T6.g2 @qCE ?_;refine aA.st (T6.set2 (.cells (bC 26 1 [] (.sl b 0 xs.length)))) fun hD T7=>?_;refine qBt (bL S [62,62]) T7 ai ho ?_;intro u s8 v8 n8 h8 bd aj be bb T8 bj bg;refine zz ?_;refine qBt (bL S [92,105,110]) T8 aj ho ?_;intro u s9 v9 n9 h9 b2 ak b3 aw T9 b7 b6;refine zz ?_;have M:=aM (xs.length+1) 104 om om;refine qCP [(1,3)] [] kr ?_;refine z2 T9.g2 @qCE ?_;refine qBv (Me) T9 ak ho T9.o2 ?_;intro b0 s10 Dg n10 b4 ao a7 a3 ac ae Y ax ap;obtain⟨a2,rfl,a6,a5,ar,ay,a9⟩:=a3.sh;refine z1 T9.o2 ?_;refine qCJ om ?_;refine z7 a6 a5 @aB M Y.g2 Y.g1 @qCE ?_;refine qCT fun az al an=>?_;refine zz ?_;refine aA.stx (fun ag=>(((Y.del1.cell (.arr 8 (xs++[AV.agg a2]))).set2 (.cells (bC 26 1 [] (.sl n10 0 (xs.length+1)))))).nx om ag) fun hE a1=>?_;refine qCK (qBu S (k:=P.pure) a1 (.mk rfl rfl (EV.app aa a9 a1.g1)) (a7.trans (congrFun (P.bind_pure _).symm _)) ho fun b9 v' n12 b5 a8 a4 ad O=>?_);cases a4 with
   |mk hd hone hl'=>
   have U:=hl'.one;have ab:=hl'.flat;refine z8 O.g1 O.g2 @qCE @qCD hd hone U ab ?_;exact qC9<|(O.set2 _).ends (a8) (.mk hd hone hl')
 .intro s4 n4 h4 bc ah ba T4;replace ah:=nf ah;refine zz ?_;refine qCK (St.listed S hk (Z:=[]) (a:=[.ref o 0]) (c:=[]) ((oE S).x []) (fun _=>rfl) f hf T4 Holds.nil ah ho ?_ ?_ fun e he n2 h2 _ _=>by(refine zz ?_);exact qC9<|.err he)
  .intro l s6 xs n6 h6 b1 ai aa au b8 T6;have aj:=ai;refine z2 T6.g1 @qCE ?_;refine aA.st (T6.set1 (.cells (bC 26 0 [] (.vec xs 8 true)))) fun hD T8=>?_;refine qBt (bL S [92,105,110]) T8 aj ho ?_;intro u s9 v9 n9 h9 b2 ak b3 aw T9 b7 b6;refine zz ?_;have M:=aM (xs.length+1) 104 om om;refine qCP [(1,3)] [] kr ?_;refine z2 T9.g1 @qCE ?_;refine qBv (Me) T9 ak ho T9.o1 ?_;intro b0 s10 Dg n10 b4 ao a7 a3 ac ae Y ax ap;obtain⟨a2,rfl,a6,a5,ar,ay,a9⟩:=a3.sh;refine z1 T9.o1 ?_;refine qCJ om ?_;refine z6 a6 a5 @aB M Y.g1 @qCE ?_;refine qCT fun az al an=>?_;refine zz ?_;refine aA.stx (fun ag=>(((Y.cell (.arr 8 (xs++[AV.agg a2]))).set2 (.cells (bC 26 0 [] (.sl n10 0 (xs.length+1)))))).nx om ag) fun hE a1=>?_;refine qCK (qBu S (k:=P.pure) a1 (.mk rfl rfl (EV.app aa a9 a1.g1)) (a7.trans (congrFun (P.bind_pure _).symm _)) ho fun b9 v' n12 b5 a8 a4 ad O=>?_);cases a4 with
   |mk hd hone hl'=>
   have U:=hl'.one;have ab:=hl'.flat;refine z8 O.g1 O.g2 @qCE @qCD hd hone U ab ?_;exact qC9<|(O.set2 _).ends (a8) (.mk hd hone hl')
  .intro l s6 xs b n6 h6 b1 ai aa au b8 hb T6;have aj:=ai;refine z2 T6.g2 @qCE ?_;refine aA.st (T6.set2 (.cells (bC 26 0 [] (.sl b 0 xs.length)))) fun hD T8=>?_;refine qBt (bL S [92,105,110]) T8 aj ho ?_;intro u s9 v9 n9 h9 b2 ak b3 aw T9 b7 b6;refine zz ?_;have M:=aM (xs.length+1) 104 om om;refine qCP [(1,3)] [] kr ?_;refine z2 T9.g2 @qCE ?_;refine qBv (Me) T9 ak ho T9.o2 ?_;intro b0 s10 Dg n10 b4 ao a7 a3 ac ae Y ax ap;obtain⟨a2,rfl,a6,a5,ar,ay,a9⟩:=a3.sh;refine z1 T9.o2 ?_;refine qCJ om ?_;refine z7 a6 a5 @aB M Y.g2 Y.g1 @qCE ?_;refine qCT fun az al an=>?_;refine zz ?_;refine aA.stx (fun ag=>(((Y.del1.cell (.arr 8 (xs++[AV.agg a2]))).set2 (.cells (bC 26 0 [] (.sl n10 0 (xs.length+1)))))).nx om ag) fun hE a1=>?_;refine qCK (qBu S (k:=P.pure) a1 (.mk rfl rfl (EV.app aa a9 a1.g1)) (a7.trans (congrFun (P.bind_pure _).symm _)) ho fun b9 v' n12 b5 a8 a4 ad O=>?_);cases a4 with
   |mk hd hone hl'=>
   have U:=hl'.one;have ab:=hl'.flat;refine z8 O.g1 O.g2 @qCE @qCD hd hone U ab ?_;exact qC9<|(O.set2 _).ends (a8) (.mk hd hone hl')
omit S in
theorem sU (xs:List AV)(v:AV):List.take (xs.length+1) (xs++[v])=xs++[v]:=List.take_of_length_le sm
omit S in
theorem wB (xs:List AV)(v:AV):(xs++[v]).length=xs.length+1:=sm
theorem Io (hk:Kp 146=(true,false)){o pm im:Nat}{lv:AV}(f:Nat)(hf:f<1000000000)(Me:aL Gl Gm Kp 76 [.ref o 0] o pm im lv (cS f) EN)(Mb:aL Gl Gm Kp 294 [.ref o 0] o pm im lv (nG f) EN):aL Gl Gm Kp 332 [.ref o 0] o pm im lv (kX (f+1)) EN:=by
 refine aL.st fun n h cv s T0 ho=>qB6 S 30 [.cell 2 32] Tryz.func332 fun _ _=>?_;have ar:=congrFun (kX.eq_2 f) s;obtain⟨_,_,_,_⟩:=T0.hd;refine zz ?_;refine aA.st (T0.cell (.cells cC)) fun _ T1=>?_;refine qCK (qBx (gO S 0 dc) T1 fun n2 h2 _ T2=>?_);obtain⟨_,ad⟩:=eF T0.rep 0;have ac:=ar.trans (P.ok_bind (x:=P.tok 0) rfl);obtain⟨ay,ae⟩:=cJ (fun hc=>ho (ac.trans hc));have au:=ac.trans (P.ok_bind ae);refine z5 @qBz @qB0 ad T2.obj @aQ ?_;refine aA.st ((T2.newc _ (.cells (bC 24 0 (s.token 0).s .sl0))).pos ay) fun _ T3=>?_;refine qCK (St.listed S hk (Z:=[]) (a:=[.ref o 0]) (c:=[]) (Mb.x []) (fun _=>rfl) f hf T3 Holds.nil au ho ?_ ?_ fun e he n2 h2 _ _=>by(refine zz ?_);exact qC9<|.err he)
 .intro l s6 xs n6 h6 ai a4 U a7 b0 T6;refine z2 T6.g1 @qCE ?_;refine aA.st (T6.set1 (.cells (bC 24 0 (s.token 0).s (.vec xs 8 true)))) fun hD T7=>?_;refine qBt (bL S [58]) T7 a4 ho ?_;intro u s8 v8 n8 h8 aj a5 al a8 Y aw an;refine zz ?_;have M:=aM (xs.length+1) 104 om om;refine qCP [(1,3)] [] kr ?_;refine z2 Y.g1 @qCE ?_;refine qBv (Me) Y a5 ho Y.o1 ?_;intro a9 s9 v9 n9 h9 ak a6 a1 aa ab T9 ax ao;obtain⟨O,rfl,a3,a2,ap,az,E9⟩:=a1.sh;refine z1 Y.o1 ?_;refine qCJ om ?_;refine z6 a3 a2 @aB M T9.g1 @qCE ?_;refine qCT fun b1 ag ah=>?_;refine zz ?_;have ee:EV (l++[a9]) (List.take (xs.length+1) (List.drop 0 (xs++[AV.agg O]))):=(by rw[List.drop_zero,sU];exact U.append (.cons E9 .nil));refine z2 T9.g2 @qCD ?_;refine qCJ ⟨by rw[wB];omega,fun x hx=>(U.append (.cons E9 .nil)).frozen x (List.mem_of_mem_take hx)⟩ ?_;refine zz ?_;exact qC9<|((((T9.cell (.arr 8 (xs++[AV.agg O]))).set2 (.cells (bC 24 0 (s.token 0).s (.sl n9 0 (xs.length+1))))).set3 _).del1).ends (a6) (.mk rfl rfl (.vec ee))
 .intro l s6 xs b n6 h6 ai a4 U a7 b0 hb T6;refine z2 T6.g2 @qCE ?_;refine aA.st (T6.set2 (.cells (bC 24 0 (s.token 0).s (.sl b 0 xs.length)))) fun hD T7=>?_;refine qBt (bL S [58]) T7 a4 ho ?_;intro u s8 v8 n8 h8 aj a5 al a8 Y aw an;refine zz ?_;have M:=aM (xs.length+1) 104 om om;refine qCP [(1,3)] [] kr ?_;refine z2 Y.g2 @qCE ?_;refine qBv (Me) Y a5 ho Y.o2 ?_;intro a9 s9 v9 n9 h9 ak a6 a1 aa ab T9 ax ao;obtain⟨O,rfl,a3,a2,ap,az,E9⟩:=a1.sh;refine z1 Y.o2 ?_;refine qCJ om ?_;refine z7 a3 a2 @aB M T9.g2 T9.g1 @qCE ?_;refine qCT fun b1 ag ah=>?_;refine zz ?_;have ee:EV (l++[a9]) (List.take (xs.length+1) (List.drop 0 (xs++[AV.agg O]))):=(by rw[List.drop_zero,sU];exact U.append (.cons E9 .nil));refine z2 T9.g3 @qCD ?_;refine qCJ ⟨by rw[wB];omega,fun x hx=>(U.append (.cons E9 .nil)).frozen x (List.mem_of_mem_take hx)⟩ ?_;refine zz ?_;exact qC9<|((((T9.del1.cell (.arr 8 (xs++[AV.agg O]))).set2 (.cells (bC 24 0 (s.token 0).s (.sl n9 0 (xs.length+1))))).set3 _).del1).ends (a6) (.mk rfl rfl (.vec ee))
theorem Ya {o pm im:Nat}{lv:AV}(f:Nat)(Me:aL Gl Gm Kp 76 [.ref o 0] o pm im lv (cS f) EN)(Mb:aL Gl Gm Kp 294 [.ref o 0] o pm im lv (nG f) EN):aL Gl Gm Kp 333 [.ref o 0] o pm im lv (pD (f+2)) EN:=by
 refine aL.st fun n h cv s T0 ho=>qB6 S 36 [.cell 2 32] Tryz.func333 fun _ _=>?_;have ak:=congrFun (pD.eq_2 (f+1)) s;obtain⟨_,_,_,_⟩:=T0.hd;refine zz ?_;obtain⟨b6,an⟩:=cJ (fun hc=>ho (ak.trans hc));have b1:=ak.trans (P.ok_bind an);refine z2 T0.obj @aQ ?_;refine aA.st ((T0.cell (.cells cC)).pos b6) fun _ T1=>?_;refine qCK (qBx (oB S 0 dc 1) T1 fun n2 h2 _ T2=>?_);have O:=b1.trans (P.ok_bind (x:=P.kind 0 1) rfl);cases hk1:PS.isKind {s with pos:=s.pos+1} 0 1 with
 |false=>
  rw[hk1]at O;replace O:=nf O;have ad:=O.trans (congrFun (qA.eq_2 f) _);refine z1 hk1 ?_;refine qBt (Mb) T2 ad ho ?_;intro a4 s4 v4 n4 h4 ar aa a2 ag T4 b3 ay;obtain⟨a1,rfl,Y,U,a8,ae,E4⟩:=a2.sh;refine z2 Y U ?_;refine aA.st (T4.newc _ (.cells a1)) fun hC T5=>?_;refine qBt (bL S [58]) T5 aa ho ?_;intro u s6 v6 n6 h6 au ab ax ah T6 b4 az;refine zz ?_;refine qCP [(0,2)] [] kr ?_;refine z4 T6.g1 Y U ae ?_;refine qBv (Me) T6 ab ho T6.o1 ?_;intro a7 s7 v7 n7 h7 aw ac a3 ai aj T7 b5 b0;obtain⟨ap,rfl,a6,a5,a9,b8,E7⟩:=a3.sh;refine z1 T6.o1 ?_;refine qCJ om ?_;refine z9 Y a6 U a5 a8 a9 @aB T7.g2 @qCD ?_;refine qCT fun nx b9 ba=>?_;refine zz ?_;exact qC9<|(T7.set2 _).ends (ac) (.mk rfl rfl (.vec (.cons E4 (.cons E7 .nil))))
 |true=>
  rw[hk1]at O;replace O:=nt O;refine z1 hk1 ?_;refine qCK (qBx (sI S 1 dc [92,105,110]) T2 fun _ _ _ T3=>?_);have M:=O.trans (P.ok_bind (x:=P.is 1 [92,105,110]) rfl);cases hi:PS.isSign {s with pos:=s.pos+1} 1 [92,105,110] with
  |true=>
   rw[hi]at M;replace M:=nt M;have ad:=M.trans (congrFun (qA.eq_2 f) _);refine z2 hk1 hi ?_;refine qBt (Mb) T3 ad ho ?_;intro a4 s4 v4 n4 h4 ar aa a2 ag T4 b3 ay;obtain⟨a1,rfl,Y,U,a8,ae,E4⟩:=a2.sh;refine z2 Y U ?_;refine aA.st (T4.newc _ (.cells a1)) fun hC T5=>?_;refine qBt (bL S [58]) T5 aa ho ?_;intro u s6 v6 n6 h6 au ab ax ah T6 b4 az;refine zz ?_;refine qCP [(0,2)] [] kr ?_;refine z4 T6.g1 Y U ae ?_;refine qBv (Me) T6 ab ho T6.o1 ?_;intro a7 s7 v7 n7 h7 aw ac a3 ai aj T7 b5 b0;obtain⟨ap,rfl,a6,a5,a9,b8,E7⟩:=a3.sh;refine z1 T6.o1 ?_;refine qCJ om ?_;refine z9 Y a6 U a5 a8 a9 @aB T7.g2 @qCD ?_;refine qCT fun nx b9 ba=>?_;refine zz ?_;exact qC9<|(T7.set2 _).ends (ac) (.mk rfl rfl (.vec (.cons E4 (.cons E7 .nil))))
  |false=>
   rw[hi]at M;replace M:=nf M;obtain⟨b7,ao⟩:=cJ (fun hc=>ho (M.trans hc));have al:=M.trans (P.ok_bind ao);refine z4 hk1 hi T3.obj @aQ ?_;refine aA.st (T3.pos b7) fun _ T8=>?_;refine qCK (qBs (lE S EN) T8 al ho (fun a s2 v n2 h2 cv2 b2=>absurd (al.symm.trans b2) (by simp[P.fail])) fun e he n2 h2 _ _=>by(refine zz ?_);exact qC9<|.err he)
inductive LS where
 |nil
 |vec (xs:List AV)
 |arr (b:Nat) (xs:List AV) (k:Nat)
def LS.xs:LS->List AV
 |.nil=>[]
 |.vec xs=>xs
 |.arr _ xs _=>xs
def LS.val:LS->AV
 |.nil=>.sl0
 |.vec xs=>.vec xs 8 true
 |.arr b _ k=>.sl b 0 k
def LS.objs:LS->List (Nat×aK)
 |.arr b xs _=>[(b,.arr 8 xs)]
 |_=>[]
def LS.ok:LS->Prop
 |.arr _ xs k=>k=xs.length
 |_=>True
omit S in
theorem qCk {α β γ:Type}(x:P α)(f:α->P β)(g:β->P γ):((x >>= f) >>= g)=(x >>= fun a=>f a >>= g):=by
 funext s
 show P.bind (P.bind x f) g s=P.bind x (fun a=>P.bind (f a) g) s;unfold P.bind;cases x s with
 |ok q=>rfl
 |error e=>rfl
omit S in
theorem qCn {α β:Type}(x:α)(g:α->P β):(P.pure x >>= g)=g x:=rfl
omit S in
theorem St.drop2 {n n1:Nat}{h h1:Hp}{o pm im:Nat}{lv cv cv1:AV}{p q:Nat×aK}{Y:List (Nat×aK)}{s1:PS}(T:St n h o pm im lv cv (p::q::Y) s1 n1 h1 cv1):St n h o pm im lv cv (p::Y) s1 n1 h1 cv1:=T.sub (.cons_cons _ (.cons _ (List.Sublist.refl _)))
omit S in
theorem aD:∀(cs:List AV) (h:Hp) (ws:List Nat) (k:List AV->Hp->List Nat->Prop),jG cs=true->tA cs h ws k=k cs h ws
 |[],_,_,_,_=>rfl
 |x::xs,h,ws,k,hx=>by
  simp only[jG,Bool.and_eq_true]at hx;show fL x h ws _=_;rw[bO _ _ _ _ hx.1];exact aD xs h ws _ hx.2
theorem MU {o pm im:Nat}{lv:AV}(f:Nat)(hf:f<1000000000)(Ma:∀ k,k<=f->aL Gl Gm Kp 363 [.ref o 0] o pm im lv (oN k) EN):aL Gl Gm Kp 330 [.ref o 0] o pm im lv (vB (f+1)) EN:=by
 refine aL.st fun n h cv s T0 ho=>qB6 S 24 [.cell 2 32] Tryz.func330 fun _ _=>?_;have ax:=congrFun (vB.eq_2 f) s;obtain⟨_,_,_,_⟩:=T0.hd;refine zz ?_;refine aA.st (T0.cell (.cells cC)) fun _ T1=>?_;refine qBt (Ma f (Nat.le_refl _)) T1 ax ho ?_;intro a2 s2 v2 n2 h2 cv2 ay an _ T2 _ _;obtain⟨ae,rfl,aa,a8,au,ai,E2⟩:=an.sh;refine z2 aa a8 ?_;refine aA.st (T2.newc _ (.cells ae)) fun _ T3=>?_;refine qCK (qBx (sI S 0 dc [33]) T3 fun n4 _ _ T4=>?_);have U:=ay.trans (P.ok_bind (x:=P.is 0 [33]) rfl);cases hi:s2.isSign 0 [33] with
 |false=>
  rw[hi]at U;replace U:=nf U;refine Pe hi T4.g1 T4.g2 aa a8 ai au @qCD @Bool.not_false @aD ?_;exact qC9<|(T4.set2 _).ends (U) (E2)
 |true=>
  rw[hi]at U;replace U:=nt U;refine z7 hi T4.g1 aa a8 ai @Bool.not_true @aB ?_;refine qCu (fun k E nn hh=>∃(L:LS) (l:List Node) (s2:PS) (cv2:AV),E=[(0,.ref o 0),(2,.ref n 0),(4,.ref n4 0)]/\vB (f+1) s=(rE k l >>= fun l=>P.pure (nd 16 [] l)) s2/\EV l L.xs/\L.ok/\L≠.nil/\l.length+k=f+1/\
   (aE nn hh->St n h o pm im lv cv (L.objs++[(n4,.cells (bC 16 0 [] L.val)),(n,.cells cC)]) s2 nn hh cv2)) f ⟨.vec [.agg ae],[a2],s2,cv2,rfl,U,.cons E2 .nil,trivial,(fun h=>by cases h),by simp;omega,fun _=>(T4.newc _ _).drop2⟩ ?_
  .rintro k E nn hh hlk hBk ⟨L,l,s5,cv5,rfl,hm5,ev5,hok,hnil,hlen5,T5⟩;cases k with
   |zero=>exact absurd hm5 (fun hc=>ho hc)
   |succ k=>
    have T5:=T5 hlk;have b3:=T5.le;rw[rE.eq_2,qCk]at hm5;have al:=ev5.length;refine zz ?_;cases L with
    |nil=>exact absurd rfl hnil
    |vec xs=>
     simp only[LS.objs,LS.val,LS.xs,List.nil_append]at T5 ev5 al;have ap:n4<nn/\n<=n4:=T5.l1;have ar:n<n4/\n<=n:=T5.l2;refine qCK (St.take S T5 hm5 ?_ ?_)
     .intro s6 n6 h6 a4 M a3 O;replace M:=nt M;rw[qCk]at M;refine zz ?_;have Y:=aM (xs.length+1) 104 om om;refine qCP [(1,3)] [] kr ?_;refine z2 O.g1 @qCE ?_;refine qBv (Ma k om) O M ho O.o1 ?_;intro a7 s7 v7 n7 h7 a5 ad a6 ag ah T7 az ao;obtain⟨a1,rfl,ab,a9,aw,b0,E7⟩:=a6.sh;refine z1 O.o1 ?_;refine qCJ om ?_;refine z6 ab a9 @aB Y T7.g1 @qCE ?_;refine qCT fun b1 aj ak=>?_;refine zz ?_;refine aU.mq k ⟨.arr n7 (xs++[.agg a1]) (xs.length+1),l++[a7],s7,a5,rfl,ad,ev5.append (.cons E7 .nil),by simp[LS.ok],(fun h=>by cases h),by simp;omega,fun ac=>(((T7.cell (.arr 8 (xs++[AV.agg a1]))).set2 (.cells (bC 16 0 [] (.sl n7 0 (xs.length+1)))))).nx om ac⟩
     .intro s6 n6 h6 a4 M a3 O;replace M:=nf M;refine z4 O.g1 O.g2 @qCE @qCD ?_;exact qC9<|(O.set2 _).ends (M) (.mk rfl rfl (.vec ev5))
    |arr b xs kk=>
     simp only[LS.ok]at hok;subst hok;simp only[LS.objs,LS.val,LS.xs,List.cons_append,List.nil_append]at T5 ev5 al;have ap:b<nn/\n<=b:=T5.l1;have ar:n4<b/\n<=n4:=T5.l2;have b2:n<n4/\n<=n:=T5.l3;refine qCK (St.take S T5 hm5 ?_ ?_)
     .intro s6 n6 h6 a4 M a3 O;replace M:=nt M;rw[qCk]at M;refine zz ?_;have Y:=aM (xs.length+1) 104 om om;refine qCP [(1,3)] [] kr ?_;refine z2 O.g2 @qCE ?_;refine qBv (Ma k om) O M ho O.o2 ?_;intro a7 s7 v7 n7 h7 a5 ad a6 ag ah T7 az ao;obtain⟨a1,rfl,ab,a9,aw,b0,E7⟩:=a6.sh;refine z1 O.o2 ?_;refine qCJ om ?_;refine z7 ab a9 @aB Y T7.g2 T7.g1 @qCE ?_;refine qCT fun b1 aj ak=>?_;refine zz ?_;refine aU.mq k ⟨.arr n7 (xs++[.agg a1]) (xs.length+1),l++[a7],s7,a5,rfl,ad,ev5.append (.cons E7 .nil),by simp[LS.ok],(fun h=>by cases h),by simp;omega,fun ac=>(((T7.del1.cell (.arr 8 (xs++[AV.agg a1]))).set2 (.cells (bC 16 0 [] (.sl n7 0 (xs.length+1)))))).nx om ac⟩
     .intro s6 n6 h6 a4 M a3 O;replace M:=nf M;have ee:EV l (List.take xs.length (List.drop 0 xs)):=(by rw[List.drop_zero,List.take_length];exact ev5);refine z5 O.g1 O.g2 O.g3 @qCE @qCD ?_;refine qCJ (fun x hx=>ev5.frozen x (List.mem_of_mem_take hx)) ?_;refine zz ?_;exact qC9<|((O.set3 _).del1).ends (M) (.mk rfl rfl (.vec ee))
theorem FG (ws:List (List UInt8))(hws:ws.length<1000000000)(w:List UInt8)(fl:Bool){n:Nat}{h:Hp}{Q:aS->Nat->Hp->Prop}(hQ:∀ r n' h',n<=n'->aE n' h'->(∀ t,t<n->h'.get t=h.get t)->decide (0<=r)=ws.contains w->Q (.returned (.int .i64 r)) n' h') :
  aG Tryz.prog Gl Gm Kp 262 [.vec (ws.map AV.str) 1 fl,.str w] n h (fun _=>False) Q:=by
 refine aG.mono (B:=fun _=>False) (Q:=fun e _ _=>∃ r,e=.returned (.int .i64 r)/\decide (0<=r)=ws.contains w) ?_ (fun _ _ h=>h) (fun e n' h' a b c d=>by obtain⟨r,rfl,d⟩:=d;exact hQ r n' h' a b (fun t ht=>c t ht id) d);refine qB6 S 19 [.tmp 4] Tryz.func262 fun _ _=>?_;refine xx ?_;refine qCu (fun k E nn hh=>∃ i:Nat,i+k=ws.length/\E=[(0,.vec (ws.map AV.str) 1 fl),(1,.str w),(6,.vec (ws.map AV.str) 1 fl),(7,.int .i64 ws.length),(8,.int .i64 i)]/\nn=n/\hh=h/\(ws.take i).contains w=false) ws.length ⟨0,by omega,rfl,rfl,rfl,by simp⟩ ?_
 .rintro k E nn hh hlk hBk ⟨i,hi,rfl,rfl,rfl,hno⟩;by_cases M:i<ws.length
  .have O:(List.map AV.str ws)[i]?=some (.str (ws.getD i [])):=(by simp[List.getD,M]);have U:ws.getD i []=ws[i]:=(by simp[List.getD,M]);cases heq:w==ws.getD i [] with
   |true=>
    refine x2 O heq ?_;refine qC9<|⟨_,rfl,?_⟩;have Y:ws.contains w=true:=by
     rw[List.contains_iff_mem,eq_of_beq heq,U];exact List.getElem_mem M
    rw[Y];exact decide_eq_true om
   |false=>
    refine x2 O heq ?_;refine aU.mq (k-1) ⟨i+1,by omega,rfl,rfl,rfl,?_⟩;rw[List.take_succ_eq_append_getElem M,List.contains_append,hno,<- U];simp only[List.contains_cons,heq,Bool.false_or]
    rfl
  .refine zz ?_;refine qC9<|⟨_,rfl,?_⟩;rw[List.take_of_length_le om]at hno;rw[hno]
   rfl
theorem Ks (ws:List (List UInt8))(hws:ws.length<1000000000)(w:List UInt8)(fl:Bool){n:Nat}{h:Hp}{Q:aS->Nat->Hp->Prop}(hQ:∀ n' h',n<=n'->aE n' h'->(∀ t,t<n->h'.get t=h.get t)->Q (.returned (.bool (ws.contains w))) n' h') :
  aG Tryz.prog Gl Gm Kp 185 [.vec (ws.map AV.str) 1 fl,.str w] n h (fun _=>False) Q:=by
 refine aG.mono (B:=fun _=>False) (Q:=fun e _ _=>e=.returned (.bool (ws.contains w))) ?_ (fun _ _ h=>h) (fun e n' h' a b c d=>by subst d;exact hQ n' h' a b (fun t O=>c t O id));refine qB6 S 9 [.tmp 4] Tryz.func185 fun _ _=>?_;refine zz ?_;refine qCK ((FG S ws hws w fl fun r n1 h1 _ _ _ M=>?_).mono (fun _ _ h=>h.elim) fun _ _ _ _ _ _ h=>h);refine zz ?_;refine qCI fun _ _ _=>?_;rw[<- M]
def PS.ends (s:PS)(n:Nat)(subst:Bool):Bool:=
 s.isSign n [44] || (!subst&&s.isSign n [41]) || (subst&&(decide (s.l.length<=s.pos+n) || decide ((s.token n).kind=1) || decide ((s.token n).kind=6) || decide ((s.token n).kind=7) || (decide ((s.token n).kind=4)&&tP.contains (s.token n).s)))
omit S in
theorem KI (s:PS)(n:Nat)(subst:Bool):P.ends n subst s=.ok (s.ends n subst,s):=by
 unfold P.ends;rw[P.ok_bind (x:=P.is n [44]) rfl];unfold PS.ends;cases h1:s.isSign n [44] with
 |true=>rfl
 |false=>
  cases subst with
  |false=>
   simp only[Bool.false_eq_true,if_false,Bool.not_false,Bool.true_and,Bool.false_and,Bool.or_false,Bool.false_or];rw[P.ok_bind (x:=P.is n [41]) rfl];cases h2:s.isSign n [41]<;>rfl
  |true=>
   simp only[Bool.false_eq_true,if_false,if_true,Bool.not_true,Bool.true_and,Bool.false_and,Bool.or_false,Bool.false_or];rw[P.ok_bind (x:=P.pure false) rfl];simp only[Bool.false_eq_true,if_false];rw[P.ok_bind (x:=P.atEnd n) rfl];by_cases M:s.l.length<=s.pos+n
   .simp only[M,decide_true,if_true,Bool.true_or];rfl
   .simp only[M,decide_false,Bool.false_eq_true,if_false,Bool.false_or];rw[P.ok_bind (x:=P.tok n) rfl];show Except.ok _=_;by_cases k1:(s.token n).kind=1<;>by_cases O:(s.token n).kind=6<;>by_cases U:(s.token n).kind=7<;>simp[k1,O,U]
theorem QA {o pm im:Nat}{lv:AV}(k:Nat)(hk:k<1000000000)(sb:Bool):Reads Gl Gm Kp 377 [.ref o 0,.int .i64 k,.bool sb] o pm im lv fun s=>.bool (s.ends k sb):=by
 refine Reads.fin fun n h cv s R hl=>qB6 S 59 [.tmp 6] Tryz.func377 fun _ _=>?_;refine zz ?_;refine qCK ((sI S k hk [44] _ _ _ _ R _ fun n1 h1 l1 _ k1=>?_).mono (fun _ _ h=>h.elim) fun _ _ _ _ _ _ h=>h);have U:=R.stable hl k1;have a5:=aN hl R.obj;have a3:=R.len;have a4:=R.pos;cases h1:s.isSign k [44] with
 |true=>
  refine z1 h1 ?_;exact qCI fun _ _ _=>by unfold PS.ends;rw[h1];rfl
 |false=>
  cases sb with
  |false=>
   refine z2 h1 @Bool.not_false ?_;refine qCK ((sI S k hk [41] _ _ _ _ U _ fun n2 h2 l2 a2 k2=>?_).mono (fun _ _ h=>h.elim) fun _ _ _ _ _ _ h=>h);cases h2:s.isSign k [41] with
   |true=>
    refine z2 h1 h2 ?_;exact qCI fun _ _ _=>by unfold PS.ends;rw[h1,h2];rfl
   |false=>
    refine z3 h1 h2 @Bool.not_false ?_;exact qCI fun _ _ _=>by unfold PS.ends;rw[h1,h2];rfl
  |true=>
   have hp:=U.obj;refine z3 h1 @Bool.not_true hp ?_;refine qCP [] [] kr ?_;by_cases O:s.l.length<=s.pos+k
   .rcases U.toks with⟨rfl,hz⟩ | ⟨fz,rfl⟩
    .refine z1 hp ?_;exact qCI fun _ _ _=>by unfold PS.ends;rw[h1];simp[O]
    .refine x1 hp ?_;exact qCI fun _ _ _=>by unfold PS.ends;rw[h1];simp[O]
   .rcases U.toks with⟨rfl,hz⟩ | ⟨fz,rfl⟩
    .rw[hz]at O;simp at O
    refine x1 hp ?_;refine qCK ((gO S k hk _ _ _ _ U _ fun n2 h2 l2 a2 k2=>?_).mono (fun _ _ h=>h.elim) fun _ _ _ _ _ _ h=>h);obtain⟨_,M⟩:=eF R k;have Y:s.ends k true=(decide ((s.token k).kind=1) || decide ((s.token k).kind=6) || decide ((s.token k).kind=7) || (decide ((s.token k).kind=4)&&tP.contains (s.token k).s)):=by
     unfold PS.ends;rw[h1];simp[O]
    rw[Y];by_cases a1:(s.token k).kind=1
    .refine z3 @qBz @qB0 M ?_;exact qCI fun _ _ _=>by simp[a1]
    by_cases k6:(s.token k).kind=6
    .refine z3 @qBz @qB0 M ?_;exact qCI fun _ _ _=>by simp[k6]
    by_cases k7:(s.token k).kind=7
    .refine z3 @qBz @qB0 M ?_;exact qCI fun _ _ _=>by simp[k7]
    by_cases k4:(s.token k).kind=4
    .refine z3 @qBz @qB0 M ?_;refine qCK ((Ks S tP dc (s.token k).s true fun _ O l3 _ k3=>?_).mono (fun _ _ h=>h.elim) fun _ _ _ _ _ _ h=>h);refine zz ?_;exact qCI fun _ _ _=>by simp[k4]
    .refine z3 @qBz @qB0 M ?_;exact qCI fun _ _ _=>by simp[a1,k6,k7,k4]
def Mg (q:oQ):AV:=.agg [.int .i64 q.lo,.int .i64 q.hi,.bool q.left,.bool q.defn]
def SG (q:oQ):AV:=.agg [.int .i64 q.lo,.int .i64 q.hi,.bool q.left]
omit S in
theorem Hj (g:oQ->AV)(s:List UInt8):∀ l:List (List UInt8×oQ),mY (.str s) (l.map fun q=>(.str q.1,g q.2))=some ((find l s).map g)
 |[]=>rfl
 |q::l=>by
  simp only[List.map_cons,mY,yV];unfold find;rw[List.find?_cons];cases hq:s==q.1 with
  |true=>
   have:(q.1==s)=true:=(by rw[eq_of_beq hq];exact beq_self_eq_true _);simp only[this]
   rfl
  |false=>
   have:(q.1==s)=false:=by
    cases h:q.1==s with
    |true=>rw[eq_of_beq h,beq_self_eq_true]at hq;cases hq
    |false=>rfl
   simp only[this];exact Hj g s l
omit S in
theorem kF (s:List UInt8):mY (.str s) Fy=some ((find jI s).map Mg):=Hj Mg s jI
omit S in
theorem Kz (s:List UInt8):mY (.str s) yD=some ((find pV s).map SG):=Hj SG s pV
omit S in
theorem eB.inf {h:Hp}{o pm im:Nat}{lv cv:AV}{s:PS}(R:eB h o pm im lv cv s):h.get im=some (.map Fy):=R.tabs.2
omit S in
theorem eB.pre {h:Hp}{o pm im:Nat}{lv cv:AV}{s:PS}(R:eB h o pm im lv cv s):h.get pm=some (.map yD):=R.tabs.1
theorem Pv (hk:Kp 146=(true,false)){o pm im:Nat}{lv:AV}(f:Nat)(hf:f<1000000000)(sb:Bool)(Me:aL Gl Gm Kp 76 [.ref o 0] o pm im lv (cS f) EN):aL Gl Gm Kp 348 [.ref o 0,.bool sb] o pm im lv (kV (f+1) sb) EN:=by
 refine aL.st fun n h cv s T0 ho=>qB6 S 72 [.cell 4 32] Tryz.func348 fun _ _=>?_;have ce:=congrFun (kV.eq_2 sb f) s;obtain⟨_,c6,_,_⟩:=T0.hd;refine zz ?_;refine aA.st ((T0.cell (.cells [.ref o 0])).cell (.cells cC)) fun _ T1=>?_;refine qCK (qBx (gO S 0 dc) T1 fun n2 h2 _ T2=>?_);obtain⟨_,c7⟩:=eF T0.rep 0;have ac:=ce.trans (P.ok_bind (x:=P.tok 0) rfl);generalize ht:s.token 0=t at *;refine z3 @qBz @qB0 c7 ?_;refine qCP [(0,11),(4,11),(6,11),(7,11)] [] kr ?_;have bm:=T2.rep.inf;have ck:=aN c6 T0.rep.inf;cases hq:find jI t.s with
 |none=>
  simp only[hq,Option.isSome_none,Bool.false_eq_true,false_and,if_false]at ac;rw[qCn]at ac;replace ac:=nf ac;refine u5 T2.g2 T2.obj bm @kF hq ?_;refine qCT fun nx ci cj=>?_;refine z1 T2.g2 ?_;refine aA.stx (fun be=>((T2.newc _ (.cells t.cells)).newc _ (.cells [.int .i64 0,.int .i64 0,.bool false,.bool false])).nx om be) fun h3 T3=>?_;refine qCK (St.take S T3 ac ?_ ?_)
  .intro s6 n6 h6 b3 Y ap T6;replace Y:=nt Y;refine z1 T6.g4 ?_;refine qCK (St.listed S hk (Z:=[(n,[.ref o 0])]) (a:=[]) (c:=[.ref n 0]) (zV S) (fun _=>rfl) f hf T6 (T6.holds sm) Y ho ?_ ?_ fun e he n2 h2 _ _=>by(refine zz ?_);exact qC9<|.err he)
   .intro l s7 xs n7 h7 au ab a3 ad bk T7;refine z1 T7.g4 ?_;refine qBt (bL S [58]) T7 ab ho ?_;intro u s8 v8 n8 h8 b4 an b6 aw M bg b8;have a8:=aM (xs.length+1) 104 om om;refine zz ?_;refine qCP [(0,3),(0,5),(3,8),(5,8)] [ (3,7),(3,8)] kr ?_;refine z1 M.g4 ?_;refine qCN (Own o _) M.bound (qCo (Me) M an ho ?_ fun e he nE hE ay b0 ak=>by(refine fC (by(repeat (first | (refine qCJ om ?_) | (refine z2 M.o4 M.o2 ?_) | exact True.intro))) ?_);(repeat (refine fW rfl ?_));(repeat (first | (refine qCJ om ?_) | (refine z4 M.o4 M.o2 (M.k2 ak) @qB0 ?_) | exact True.intro));unfold gN;intro nx h' _ _ _;(refine zz ?_);exact qC9<|.err he);intro a9 s9 v9 n9 h9 b5 ao ah ax az T9;have bh:=T9.le;have b9:=T9.rep.len;obtain⟨ag,rfl,aj,ai,bd,bj,E9⟩:=ah.sh;refine g9 M.o4 M.o2 aj ai @aB a8 T9.g4 T9.g2 @qB0 ?_;have TX:=T9.cell (.arr 8 (xs++[AV.agg ag]));refine qCN (fun t=>n<=t\/Own o cv t) (fun t _ h=>h) (qBu S (k:=P.pure) TX (.mk rfl rfl (EV.app a3 E9 TX.g1)) (ao.trans (congrFun (P.bind_pure _).symm _)) ho fun bl v' n12 b7 aa a2 al a1=>?_);obtain⟨ar,rfl,a5,a4,O,U,ae⟩:=a2.sh;refine g6 a1.g3 a5 a4 O U @qCD ?_;refine qCT fun b1 _ _=>?_;refine z3 @aD O U ?_;exact qC9<|(a1.set3 _).ends (aa) (ae)
   .intro l s7 xs b n7 h7 au ab a3 ad bk hb T7;have bu:b<n7/\n<=b:=T7.l1;have bv:_<b/\n<=_:=T7.l2;have bw:n<n+1/\n<=n:=T7.l5;refine z1 T7.g5 ?_;refine qBt (bL S [58]) T7 ab ho ?_;intro u s8 v8 n8 h8 b4 an b6 aw M bg b8;have a8:=aM (xs.length+1) 104 om om;refine zz ?_;refine qCP [(0,3),(0,5),(3,8),(5,8)] [ (3,7),(3,8)] kr ?_;refine z1 M.g5 ?_;refine qCN (Own o _) M.bound (qCo (Me) M an ho ?_ fun e he nE hE ay b0 ak=>by(refine fC (by(repeat (first | (refine qCJ om ?_) | (refine z2 M.o5 M.o3 ?_) | exact True.intro))) ?_);(repeat (refine fW rfl ?_));(repeat (first | (refine qCJ om ?_) | (refine z4 M.o5 M.o3 (M.k3 ak) @qB0 ?_) | exact True.intro));unfold gN;intro nx h' _ _ _;(refine zz ?_);exact qC9<|.err he);intro a9 s9 v9 n9 h9 b5 ao ah ax az T9;have bh:=T9.le;have b9:=T9.rep.len;obtain⟨ag,rfl,aj,ai,bd,bj,E9⟩:=ah.sh;refine zS M.o5 M.o3 aj ai @aB a8 T9.g5 T9.g3 T9.g1 @qB0 ?_;have TX:=T9.del1.cell (.arr 8 (xs++[AV.agg ag]));refine qCN (fun t=>n<=t\/Own o cv t) (fun t _ h=>h) (qBu S (k:=P.pure) TX (.mk rfl rfl (EV.app a3 E9 TX.g1)) (ao.trans (congrFun (P.bind_pure _).symm _)) ho fun bl v' n12 b7 aa a2 al a1=>?_);obtain⟨ar,rfl,a5,a4,O,U,ae⟩:=a2.sh;refine g6 a1.g3 a5 a4 O U @qCD ?_;refine qCT fun b1 _ _=>?_;refine z3 @aD O U ?_;exact qC9<|(a1.set3 _).ends (aa) (ae)
  .intro s6 n6 h6 b3 Y ap T6;replace Y:=nf Y;refine z1 T6.g4 ?_;refine qBr (Me) T6 Y ho ?_;intro a7 s7 v7 n7 h7 au ab a3 ad T7 bz bq;obtain⟨bp,rfl,bb,ba,bc,bi,E7⟩:=a3.sh;refine z7 T7.g3 bb ba bc bi @qCD @aD ?_;exact qC9<|(T7.set3 _).ends (ab) (E7)
 |some q=>
  simp only[hq,Option.isSome_some,true_and]at ac;refine u6 T2.g2 T2.obj bm @kF hq @Mg.eq_1 ?_;refine qCT fun nx ci cj=>?_;by_cases k5:t.kind=5
  .have c5:decide (t.kind=5)=true:=decide_eq_true k5;simp only[k5,true_and]at ac;clear k5;by_cases hX:t.s=[92,88]
   .have br:(t.s==[92,88])=true:=(by rw[hX];rfl);simp only[hX,ne_eq,not_true_eq_false,if_false]at ac;rw[qCn]at ac;replace ac:=nf ac;refine z4 c5 br @Bool.not_true T2.g2 ?_;refine aA.stx (fun be=>((T2.newc _ (.cells t.cells)).newc _ (.cells [.int .i64 q.lo,.int .i64 q.hi,.bool q.left,.bool q.defn])).nx om be) fun h3 T3=>?_;refine qCK (St.take S T3 ac ?_ ?_)
    .intro s6 n6 h6 b3 Y ap T6;replace Y:=nt Y;refine z1 T6.g4 ?_;refine qCK (St.listed S hk (Z:=[(n,[.ref o 0])]) (a:=[]) (c:=[.ref n 0]) (zV S) (fun _=>rfl) f hf T6 (T6.holds sm) Y ho ?_ ?_ fun e he n2 h2 _ _=>by(refine zz ?_);exact qC9<|.err he)
     .intro l s7 xs n7 h7 au ab a3 ad bk T7;refine z1 T7.g4 ?_;refine qBt (bL S [58]) T7 ab ho ?_;intro u s8 v8 n8 h8 b4 an b6 aw M bg b8;have a8:=aM (xs.length+1) 104 om om;refine zz ?_;refine qCP [(0,3),(0,5),(3,8),(5,8)] [ (3,7),(3,8)] kr ?_;refine z1 M.g4 ?_;refine qCN (Own o _) M.bound (qCo (Me) M an ho ?_ fun e he nE hE ay b0 ak=>by(refine fC (by(repeat (first | (refine qCJ om ?_) | (refine z2 M.o4 M.o2 ?_) | exact True.intro))) ?_);(repeat (refine fW rfl ?_));(repeat (first | (refine qCJ om ?_) | (refine z4 M.o4 M.o2 (M.k2 ak) @qB0 ?_) | exact True.intro));unfold gN;intro nx h' _ _ _;(refine zz ?_);exact qC9<|.err he);intro a9 s9 v9 n9 h9 b5 ao ah ax az T9;have bh:=T9.le;have b9:=T9.rep.len;obtain⟨ag,rfl,aj,ai,bd,bj,E9⟩:=ah.sh;refine g9 M.o4 M.o2 aj ai @aB a8 T9.g4 T9.g2 @qB0 ?_;have TX:=T9.cell (.arr 8 (xs++[AV.agg ag]));refine qCN (fun t=>n<=t\/Own o cv t) (fun t _ h=>h) (qBu S (k:=P.pure) TX (.mk rfl rfl (EV.app a3 E9 TX.g1)) (ao.trans (congrFun (P.bind_pure _).symm _)) ho fun bl v' n12 b7 aa a2 al a1=>?_);obtain⟨ar,rfl,a5,a4,O,U,ae⟩:=a2.sh;refine g6 a1.g3 a5 a4 O U @qCD ?_;refine qCT fun b1 _ _=>?_;refine z3 @aD O U ?_;exact qC9<|(a1.set3 _).ends (aa) (ae)
     .intro l s7 xs b n7 h7 au ab a3 ad bk hb T7;have bu:b<n7/\n<=b:=T7.l1;have bv:_<b/\n<=_:=T7.l2;have bw:n<n+1/\n<=n:=T7.l5;refine z1 T7.g5 ?_;refine qBt (bL S [58]) T7 ab ho ?_;intro u s8 v8 n8 h8 b4 an b6 aw M bg b8;have a8:=aM (xs.length+1) 104 om om;refine zz ?_;refine qCP [(0,3),(0,5),(3,8),(5,8)] [ (3,7),(3,8)] kr ?_;refine z1 M.g5 ?_;refine qCN (Own o _) M.bound (qCo (Me) M an ho ?_ fun e he nE hE ay b0 ak=>by(refine fC (by(repeat (first | (refine qCJ om ?_) | (refine z2 M.o5 M.o3 ?_) | exact True.intro))) ?_);(repeat (refine fW rfl ?_));(repeat (first | (refine qCJ om ?_) | (refine z4 M.o5 M.o3 (M.k3 ak) @qB0 ?_) | exact True.intro));unfold gN;intro nx h' _ _ _;(refine zz ?_);exact qC9<|.err he);intro a9 s9 v9 n9 h9 b5 ao ah ax az T9;have bh:=T9.le;have b9:=T9.rep.len;obtain⟨ag,rfl,aj,ai,bd,bj,E9⟩:=ah.sh;refine zS M.o5 M.o3 aj ai @aB a8 T9.g5 T9.g3 T9.g1 @qB0 ?_;have TX:=T9.del1.cell (.arr 8 (xs++[AV.agg ag]));refine qCN (fun t=>n<=t\/Own o cv t) (fun t _ h=>h) (qBu S (k:=P.pure) TX (.mk rfl rfl (EV.app a3 E9 TX.g1)) (ao.trans (congrFun (P.bind_pure _).symm _)) ho fun bl v' n12 b7 aa a2 al a1=>?_);obtain⟨ar,rfl,a5,a4,O,U,ae⟩:=a2.sh;refine g6 a1.g3 a5 a4 O U @qCD ?_;refine qCT fun b1 _ _=>?_;refine z3 @aD O U ?_;exact qC9<|(a1.set3 _).ends (aa) (ae)
    .intro s6 n6 h6 b3 Y ap T6;replace Y:=nf Y;refine z1 T6.g4 ?_;refine qBr (Me) T6 Y ho ?_;intro a7 s7 v7 n7 h7 au ab a3 ad T7 bz bq;obtain⟨bp,rfl,bb,ba,bc,bi,E7⟩:=a3.sh;refine z7 T7.g3 bb ba bc bi @qCD @aD ?_;exact qC9<|(T7.set3 _).ends (ab) (E7)
   .have br:(t.s==[92,88])=false:=(by simpa using hX);simp only[hX,ne_eq,not_false_eq_true,if_true]at ac;refine z4 c5 br @Bool.not_false T2.g2 ?_;refine aA.stx (fun be=>((T2.newc _ (.cells t.cells)).newc _ (.cells [.int .i64 q.lo,.int .i64 q.hi,.bool q.left,.bool q.defn])).nx om be) fun h3 T3=>?_;refine qCK (qBx (QA S 1 dc sb) T3 fun n4 _ _ T4=>?_);have b2:=ac.trans (P.ok_bind (KI s 1 sb));cases he:s.ends 1 sb with
    |false=>
     rw[he]at b2;replace b2:=nf b2;refine z1 T4.g4 ?_;refine qCK (St.take S T4 b2 ?_ ?_)
     .intro s6 n6 h6 b3 Y ap T6;replace Y:=nt Y;refine z1 T6.g4 ?_;refine qCK (St.listed S hk (Z:=[(n,[.ref o 0])]) (a:=[]) (c:=[.ref n 0]) (zV S) (fun _=>rfl) f hf T6 (T6.holds sm) Y ho ?_ ?_ fun e he n2 h2 _ _=>by(refine zz ?_);exact qC9<|.err he)
      .intro l s7 xs n7 h7 au ab a3 ad bk T7;refine z1 T7.g4 ?_;refine qBt (bL S [58]) T7 ab ho ?_;intro u s8 v8 n8 h8 b4 an b6 aw M bg b8;have a8:=aM (xs.length+1) 104 om om;refine zz ?_;refine qCP [(0,3),(0,5),(3,8),(5,8)] [ (3,7),(3,8)] kr ?_;refine z1 M.g4 ?_;refine qCN (Own o _) M.bound (qCo (Me) M an ho ?_ fun e he nE hE ay b0 ak=>by(refine fC (by(repeat (first | (refine qCJ om ?_) | (refine z2 M.o4 M.o2 ?_) | exact True.intro))) ?_);(repeat (refine fW rfl ?_));(repeat (first | (refine qCJ om ?_) | (refine z4 M.o4 M.o2 (M.k2 ak) @qB0 ?_) | exact True.intro));unfold gN;intro nx h' _ _ _;(refine zz ?_);exact qC9<|.err he);intro a9 s9 v9 n9 h9 b5 ao ah ax az T9;have bh:=T9.le;have b9:=T9.rep.len;obtain⟨ag,rfl,aj,ai,bd,bj,E9⟩:=ah.sh;refine g9 M.o4 M.o2 aj ai @aB a8 T9.g4 T9.g2 @qB0 ?_;have TX:=T9.cell (.arr 8 (xs++[AV.agg ag]));refine qCN (fun t=>n<=t\/Own o cv t) (fun t _ h=>h) (qBu S (k:=P.pure) TX (.mk rfl rfl (EV.app a3 E9 TX.g1)) (ao.trans (congrFun (P.bind_pure _).symm _)) ho fun bl v' n12 b7 aa a2 al a1=>?_);obtain⟨ar,rfl,a5,a4,O,U,ae⟩:=a2.sh;refine g6 a1.g3 a5 a4 O U @qCD ?_;refine qCT fun b1 _ _=>?_;refine z3 @aD O U ?_;exact qC9<|(a1.set3 _).ends (aa) (ae)
      .intro l s7 xs b n7 h7 au ab a3 ad bk hb T7;have bu:b<n7/\n<=b:=T7.l1;have bv:_<b/\n<=_:=T7.l2;have bw:n<n+1/\n<=n:=T7.l5;refine z1 T7.g5 ?_;refine qBt (bL S [58]) T7 ab ho ?_;intro u s8 v8 n8 h8 b4 an b6 aw M bg b8;have a8:=aM (xs.length+1) 104 om om;refine zz ?_;refine qCP [(0,3),(0,5),(3,8),(5,8)] [ (3,7),(3,8)] kr ?_;refine z1 M.g5 ?_;refine qCN (Own o _) M.bound (qCo (Me) M an ho ?_ fun e he nE hE ay b0 ak=>by(refine fC (by(repeat (first | (refine qCJ om ?_) | (refine z2 M.o5 M.o3 ?_) | exact True.intro))) ?_);(repeat (refine fW rfl ?_));(repeat (first | (refine qCJ om ?_) | (refine z4 M.o5 M.o3 (M.k3 ak) @qB0 ?_) | exact True.intro));unfold gN;intro nx h' _ _ _;(refine zz ?_);exact qC9<|.err he);intro a9 s9 v9 n9 h9 b5 ao ah ax az T9;have bh:=T9.le;have b9:=T9.rep.len;obtain⟨ag,rfl,aj,ai,bd,bj,E9⟩:=ah.sh;refine zS M.o5 M.o3 aj ai @aB a8 T9.g5 T9.g3 T9.g1 @qB0 ?_;have TX:=T9.del1.cell (.arr 8 (xs++[AV.agg ag]));refine qCN (fun t=>n<=t\/Own o cv t) (fun t _ h=>h) (qBu S (k:=P.pure) TX (.mk rfl rfl (EV.app a3 E9 TX.g1)) (ao.trans (congrFun (P.bind_pure _).symm _)) ho fun bl v' n12 b7 aa a2 al a1=>?_);obtain⟨ar,rfl,a5,a4,O,U,ae⟩:=a2.sh;refine g6 a1.g3 a5 a4 O U @qCD ?_;refine qCT fun b1 _ _=>?_;refine z3 @aD O U ?_;exact qC9<|(a1.set3 _).ends (aa) (ae)
     .intro s6 n6 h6 b3 Y ap T6;replace Y:=nf Y;refine z1 T6.g4 ?_;refine qBr (Me) T6 Y ho ?_;intro a7 s7 v7 n7 h7 au ab a3 ad T7 bz bq;obtain⟨bp,rfl,bb,ba,bc,bi,E7⟩:=a3.sh;refine z7 T7.g3 bb ba bc bi @qCD @aD ?_;exact qC9<|(T7.set3 _).ends (ab) (E7)
    |true=>
     rw[he]at b2;replace b2:=nt b2;obtain⟨cg,c8⟩:=cJ (fun hc=>ho (b2.trans hc));have cf:=b2.trans (P.ok_bind c8);refine z5 T4.g4 T4.g2 T4.obj @aQ @qB0 ?_;refine aA.st (T4.pos cg) fun _ T5=>?_;refine qBr (eV S (nd:=nd 50 t.s []) (.mk rfl rfl .nil) t.at') T5 cf ho ?_;intro _ s6 v6 n6 h6 b3 Y c9 ap T6 _ _;obtain⟨_,rfl,cc,cb,cd,ch,E6⟩:=c9.sh;refine z7 T6.g3 cc cb cd ch @qCD @aD ?_;exact qC9<|(T6.set3 _).ends (Y) (E6)
  .simp only[k5,false_and,if_false]at ac;rw[qCn]at ac;replace ac:=nf ac;refine z2 k5 T2.g2 ?_;refine aA.stx (fun be=>((T2.newc _ (.cells t.cells)).newc _ (.cells [.int .i64 q.lo,.int .i64 q.hi,.bool q.left,.bool q.defn])).nx om be) fun h3 T3=>?_;refine qCK (St.take S T3 ac ?_ ?_)
   .intro s6 n6 h6 b3 Y ap T6;replace Y:=nt Y;refine z1 T6.g4 ?_;refine qCK (St.listed S hk (Z:=[(n,[.ref o 0])]) (a:=[]) (c:=[.ref n 0]) (zV S) (fun _=>rfl) f hf T6 (T6.holds sm) Y ho ?_ ?_ fun e he n2 h2 _ _=>by(refine zz ?_);exact qC9<|.err he)
    .intro l s7 xs n7 h7 au ab a3 ad bk T7;refine z1 T7.g4 ?_;refine qBt (bL S [58]) T7 ab ho ?_;intro u s8 v8 n8 h8 b4 an b6 aw M bg b8;have a8:=aM (xs.length+1) 104 om om;refine zz ?_;refine qCP [(0,3),(0,5),(3,8),(5,8)] [ (3,7),(3,8)] kr ?_;refine z1 M.g4 ?_;refine qCN (Own o _) M.bound (qCo (Me) M an ho ?_ fun e he nE hE ay b0 ak=>by(refine fC (by(repeat (first | (refine qCJ om ?_) | (refine z2 M.o4 M.o2 ?_) | exact True.intro))) ?_);(repeat (refine fW rfl ?_));(repeat (first | (refine qCJ om ?_) | (refine z4 M.o4 M.o2 (M.k2 ak) @qB0 ?_) | exact True.intro));unfold gN;intro nx h' _ _ _;(refine zz ?_);exact qC9<|.err he);intro a9 s9 v9 n9 h9 b5 ao ah ax az T9;have bh:=T9.le;have b9:=T9.rep.len;obtain⟨ag,rfl,aj,ai,bd,bj,E9⟩:=ah.sh;refine g9 M.o4 M.o2 aj ai @aB a8 T9.g4 T9.g2 @qB0 ?_;have TX:=T9.cell (.arr 8 (xs++[AV.agg ag]));refine qCN (fun t=>n<=t\/Own o cv t) (fun t _ h=>h) (qBu S (k:=P.pure) TX (.mk rfl rfl (EV.app a3 E9 TX.g1)) (ao.trans (congrFun (P.bind_pure _).symm _)) ho fun bl v' n12 b7 aa a2 al a1=>?_);obtain⟨ar,rfl,a5,a4,O,U,ae⟩:=a2.sh;refine g6 a1.g3 a5 a4 O U @qCD ?_;refine qCT fun b1 _ _=>?_;refine z3 @aD O U ?_;exact qC9<|(a1.set3 _).ends (aa) (ae)
    .intro l s7 xs b n7 h7 au ab a3 ad bk hb T7;have bu:b<n7/\n<=b:=T7.l1;have bv:_<b/\n<=_:=T7.l2;have bw:n<n+1/\n<=n:=T7.l5;refine z1 T7.g5 ?_;refine qBt (bL S [58]) T7 ab ho ?_;intro u s8 v8 n8 h8 b4 an b6 aw M bg b8;have a8:=aM (xs.length+1) 104 om om;refine zz ?_;refine qCP [(0,3),(0,5),(3,8),(5,8)] [ (3,7),(3,8)] kr ?_;refine z1 M.g5 ?_;refine qCN (Own o _) M.bound (qCo (Me) M an ho ?_ fun e he nE hE ay b0 ak=>by(refine fC (by(repeat (first | (refine qCJ om ?_) | (refine z2 M.o5 M.o3 ?_) | exact True.intro))) ?_);(repeat (refine fW rfl ?_));(repeat (first | (refine qCJ om ?_) | (refine z4 M.o5 M.o3 (M.k3 ak) @qB0 ?_) | exact True.intro));unfold gN;intro nx h' _ _ _;(refine zz ?_);exact qC9<|.err he);intro a9 s9 v9 n9 h9 b5 ao ah ax az T9;have bh:=T9.le;have b9:=T9.rep.len;obtain⟨ag,rfl,aj,ai,bd,bj,E9⟩:=ah.sh;refine zS M.o5 M.o3 aj ai @aB a8 T9.g5 T9.g3 T9.g1 @qB0 ?_;have TX:=T9.del1.cell (.arr 8 (xs++[AV.agg ag]));refine qCN (fun t=>n<=t\/Own o cv t) (fun t _ h=>h) (qBu S (k:=P.pure) TX (.mk rfl rfl (EV.app a3 E9 TX.g1)) (ao.trans (congrFun (P.bind_pure _).symm _)) ho fun bl v' n12 b7 aa a2 al a1=>?_);obtain⟨ar,rfl,a5,a4,O,U,ae⟩:=a2.sh;refine g6 a1.g3 a5 a4 O U @qCD ?_;refine qCT fun b1 _ _=>?_;refine z3 @aD O U ?_;exact qC9<|(a1.set3 _).ends (aa) (ae)
   .intro s6 n6 h6 b3 Y ap T6;replace Y:=nf Y;refine z1 T6.g4 ?_;refine qBr (Me) T6 Y ho ?_;intro a7 s7 v7 n7 h7 au ab a3 ad T7 bz bq;obtain⟨bp,rfl,bb,ba,bc,bi,E7⟩:=a3.sh;refine z7 T7.g3 bb ba bc bi @qCD @aD ?_;exact qC9<|(T7.set3 _).ends (ab) (E7)
theorem KF {o pm im:Nat}{lv:AV}(f:Nat)(k fr:Int)(Me:aL Gl Gm Kp 76 [.ref o 0] o pm im lv (cS f) EN):aL Gl Gm Kp 232 [.ref o 0,.int .i64 k,.int .i64 fr] o pm im lv (Dp f k fr) EN:=by
 refine aL.st fun n h cv s T0 ho=>qB6 S 35 [.cell 6 32] Tryz.func232 fun _ _=>?_;have al:=congrFun (Dp.eq_1 f k fr) s;obtain⟨_,_,_,_⟩:=T0.hd;refine zz ?_;refine aA.st ((T0.cell (.cells cC)).newc _ (.cells (bC k 0 [] .sl0))) fun _ T1=>?_;refine qCK (qBx (oB S 0 dc 1) T1 fun n2 h2 _ T2=>?_);rw[qCk]at al;have M:=al.trans (P.ok_bind (x:=P.kind 0 1) rfl);cases hk1:s.isKind 0 1 with
 |true=>
  rw[hk1]at M;replace M:=nt M;refine z1 hk1 ?_;refine qCK (qBx (sI S 1 dc [61,61]) T2 fun _ _ _ T3=>?_);have O:=M.trans (P.ok_bind (x:=P.is 1 [61,61]) rfl);cases hi:s.isSign 1 [61,61] with
  |true=>
   rw[hi]at O;replace O:=nt O;refine z1 hi ?_;refine qCK (qBx (gO S 0 dc) T3 fun n4 _ _ T4=>?_);obtain⟨_,ar⟩:=eF T3.rep 0;have an:=O.trans (P.ok_bind (x:=P.tok 0) rfl);obtain⟨ay,au⟩:=cJ (fun hc=>ho (an.trans hc));have ax:=an.trans (P.ok_bind au);refine z7 @qBz @qB0 ar T4.g1 T4.obj @aQ @qCE ?_;refine aA.st ((T4.set1 (.cells (bC k 0 (s.token 0).s .sl0))).pos ay) fun _ T5=>?_;refine qBt (Me) T5 ax ho ?_;intro a7 s7 v7 n7 h7 ag a8 Y ac T7 ao ai;obtain⟨U,rfl,a4,a2,ak,aw,E7⟩:=Y.sh;refine z5 a4 a2 @aB T7.g1 @qCE ?_;refine aA.st (T7.set1 (.cells (bC k 0 (s.token 0).s (.vec [.agg U] 8 true)))) fun hD T8=>?_;refine qBr (eV S (nd:=nd k (s.token 0).s [a7]) (.mk rfl rfl (.vec (.cons E7 .nil))) fr) T8 a8 ho ?_;intro a9 s9 v9 n9 h9 ah aa a1 ad T9 ap aj;obtain⟨ae,rfl,a5,a3,a6,ab,E9⟩:=a1.sh;refine z7 T9.g2 @qCD a5 a3 ab a6 @aD ?_;exact qC9<|(T9.set2 _).ends (aa) (E9)
  |false=>
   rw[hi]at O;replace O:=nf O;refine z1 hi ?_;refine qBt (Me) T3 O ho ?_;intro a7 s7 v7 n7 h7 ag a8 Y ac T7 ao ai;obtain⟨U,rfl,a4,a2,ak,aw,E7⟩:=Y.sh;refine z5 a4 a2 @aB T7.g1 @qCE ?_;refine aA.st (T7.set1 (.cells (bC k 0 [] (.vec [.agg U] 8 true)))) fun hD T8=>?_;refine qBr (eV S (nd:=nd k [] [a7]) (.mk rfl rfl (.vec (.cons E7 .nil))) fr) T8 a8 ho ?_;intro a9 s9 v9 n9 h9 ah aa a1 ad T9 ap aj;obtain⟨ae,rfl,a5,a3,a6,ab,E9⟩:=a1.sh;refine z7 T9.g2 @qCD a5 a3 ab a6 @aD ?_;exact qC9<|(T9.set2 _).ends (aa) (E9)
 |false=>
  rw[hk1]at M;replace M:=nf M;rw[qCn]at M;replace M:=nf M;refine z1 hk1 ?_;refine qBt (Me) T2 M ho ?_;intro a7 s7 v7 n7 h7 ag a8 Y ac T7 ao ai;obtain⟨U,rfl,a4,a2,ak,aw,E7⟩:=Y.sh;refine z5 a4 a2 @aB T7.g1 @qCE ?_;refine aA.st (T7.set1 (.cells (bC k 0 [] (.vec [.agg U] 8 true)))) fun hD T8=>?_;refine qBr (eV S (nd:=nd k [] [a7]) (.mk rfl rfl (.vec (.cons E7 .nil))) fr) T8 a8 ho ?_;intro a9 s9 v9 n9 h9 ah aa a1 ad T9 ap aj;obtain⟨ae,rfl,a5,a3,a6,ab,E9⟩:=a1.sh;refine z7 T9.g2 @qCD a5 a3 ab a6 @aD ?_;exact qC9<|(T9.set2 _).ends (aa) (E9)
theorem Ty {o pm im:Nat}{lv:AV}(f:Nat)(Me:aL Gl Gm Kp 76 [.ref o 0] o pm im lv (cS f) EN):aL Gl Gm Kp 231 [.ref o 0] o pm im lv (tR f) EN:=by
 refine aL.st fun n h cv s T0 ho=>qB6 S 18 [.cell 2 32] Tryz.func231 fun hB _=>?_;have al:=congrFun (tR.eq_1 f) s;obtain⟨b5,ax,ak,ar⟩:=T0.hd;refine zz ?_;refine aA.st (T0.cell (.cells cC)) fun hA T1=>?_;refine qBt (oE S) T1 al ho ?_;intro a2 s2 v2 n2 h2 cv2 an ae au T2 b3 b0;cases ae with
 |mk hd hone hl'=>
 rename_i k m t g d l a e lw;have O:=hl'.one;refine z2 hone O ?_;refine aA.st ((T2.newc _ (.cells [.int .i64 k,.int .i64 m,.str t,.bool g,d,lw,.int .i64 a,.int .i64 e])).set1 (.cells [.int .i64 13,.int .i64 m,.str t,.bool g,d,lw,.int .i64 a,.int .i64 e])) fun az T3=>?_;refine qCK (St.take S T3 an ?_ ?_)
 .intro s4 n4 h4 ac M a8 T4;replace M:=nt M;refine zz ?_;refine qBt (Me) T4 M ho ?_;intro a5 s5 v5 n5 h5 ay ao ag aw T5 b4 b1;obtain⟨aa,rfl,aj,ai,b2,b6,E5⟩:=ag.sh;refine z5 aj ai @aB T5.g1 hone ?_;refine aA.st (T5.set1 (.cells [.int .i64 13,.int .i64 m,.str t,.bool g,d,.vec [.agg aa] 8 true,.int .i64 a,.int .i64 e])) fun hC T6=>?_;refine qBr (eV S (nd:=.mk 13 m t g d [a5] a e) (.mk hd hone (.vec (.cons E5 .nil))) a) T6 ao ho ?_;intro a7 s7 v7 n7 h7 ad a4 U a9 T7 ap ah;obtain⟨ab,rfl,a1,Y,a3,a6,E7⟩:=U.sh;refine z7 T7.g2 @qCD a1 Y a6 a3 @aD ?_;exact qC9<|(T7.set2 _).ends (a4) (E7)
 .intro s4 n4 h4 ac M a8 T4;replace M:=nf M;refine z3 T4.g1 hone O ?_;refine qBr (eV S (nd:=.mk 13 m t g d l a e) (.mk hd hone hl') a) T4 M ho ?_;intro a7 s7 v7 n7 h7 ad a4 U a9 T7 ap ah;obtain⟨ab,rfl,a1,Y,a3,a6,E7⟩:=U.sh;refine z7 T7.g2 @qCD a1 Y a6 a3 @aD ?_;exact qC9<|(T7.set2 _).ends (a4) (E7)
theorem Rf (hk:Kp 146=(true,false)){o pm im:Nat}{lv:AV}(f:Nat)(hf:f<1000000000)(fr loc:Int)(Ms:aL Gl Gm Kp 297 [.ref o 0] o pm im lv (yL f) EN):aL Gl Gm Kp 233 [.ref o 0,.int .i64 fr,.int .i64 loc] o pm im lv (jZ (f+1) fr loc) EN:=by
 refine aL.st fun n h cv s T0 ho=>qB6 S 24 [.cell 6 32] Tryz.func233 fun _ _=>?_;have aw:=congrFun (jZ.eq_2 fr loc f) s;obtain⟨_,_,_,_⟩:=T0.hd;refine zz ?_;refine aA.st (T0.cell (.cells cC)) fun _ T1=>?_;refine qBt (iG S 1 dc) T1 aw ho ?_;intro a2 s2 v2 n2 h2 cv2 ax ar _ T2 _ _;obtain⟨rfl,_,ai⟩:=ar;refine z3 @qBz @qB0 ai ?_;refine aA.st (T2.newc _ (.cells (bC 10 loc a2.s .sl0))) fun _ T3=>?_;refine qCK (St.take S T3 ax ?_ ?_)
 .intro s4 n4 h4 an M ad T4;replace M:=nt M;refine zz ?_;refine qCK (St.listed S hk (Z:=[]) (a:=[.ref o 0]) (c:=[]) (Ms.x []) (fun _=>rfl) f hf T4 Holds.nil M ho ?_ ?_ fun e he n2 h2 _ _=>by(refine zz ?_);exact qC9<|.err he)
  .intro l s6 xs n6 h6 ao a4 O ae az T6;refine z2 T6.g1 @qCE ?_;refine aA.st (T6.set1 (.cells (bC 10 loc a2.s (.vec xs 8 true)))) fun hD T7=>?_;refine qBr (eV S (nd:=nd 10 a2.s l loc) (.mk rfl rfl (.vec O)) fr) T7 a4 ho ?_;intro a8 s8 v8 n8 h8 ap a5 U ag T8 ay au;obtain⟨al,rfl,a1,Y,a3,a6,E8⟩:=U.sh;refine z7 T8.g2 @qCD a1 Y a6 a3 @aD ?_;exact qC9<|(T8.set2 _).ends (a5) (E8)
  .intro l s6 xs b n6 h6 ao a4 O ae az hb T6;have b0:_<b/\n<=_:=T6.l2;refine z2 T6.g2 @qCE ?_;refine aA.st (T6.set2 (.cells (bC 10 loc a2.s (.sl b 0 xs.length)))) fun hD T7=>?_;refine qCK (qBu S (k:=P.pure) T7 (.mk rfl rfl (qCc O T7.g1)) (a4.trans (congrFun (P.bind_pure _).symm _)) ho fun _ _ n12 _ ah a9 _ a7=>?_);obtain⟨_,rfl,ab,aa,ac,aj,ak⟩:=a9.sh;refine z7 a7.g2 @qCD ab aa aj ac @aD ?_;exact qC9<|(a7.set2 _).ends (ah) (ak)
 .intro s4 n4 h4 an M ad T4;replace M:=nf M;refine z2 T4.g1 @qCE ?_;refine qBr (eV S (nd:=nd 10 a2.s [] loc) (.mk rfl rfl .nil) fr) T4 M ho ?_;intro a8 s8 v8 n8 h8 ap a5 U ag T8 ay au;obtain⟨al,rfl,a1,Y,a3,a6,E8⟩:=U.sh;refine z7 T8.g2 @qCD a1 Y a6 a3 @aD ?_;exact qC9<|(T8.set2 _).ends (a5) (E8)
theorem NN {o pm im:Nat}{lv:AV}(f:Nat)(Ma:aL Gl Gm Kp 348 [.ref o 0,.bool true] o pm im lv (kV f true) EN):aL Gl Gm Kp 297 [.ref o 0] o pm im lv (yL (f+1)) EN:=by
 refine aL.st fun n h cv s T0 ho=>qB6 S 50 [.cell 2 32] Tryz.func297 fun _ _=>?_;have bb:=congrFun (yL.eq_2 f) s;obtain⟨_,b0,_,_⟩:=T0.hd;refine zz ?_;refine aA.st (T0.cell (.cells cC)) fun _ T1=>?_;refine qCK (qBx (iK S) T1 fun n2 h2 _ T2=>?_);have bc:=bb.trans (P.ok_bind (x:=P.begin) rfl);refine zz ?_;refine qCK (qBx (gO S 0 dc) T2 fun _ _ _ T3=>?_);obtain⟨_,b2⟩:=eF T2.rep 0;have M:=bc.trans (P.ok_bind (x:=P.tok 0) rfl);refine z3 @qBz @qB0 b2 ?_;refine qCP [] [] kr ?_;refine zz ?_;refine aZ.st (T3.newc _ (.cells (bC 11 0 (s.token 0).s .sl0))) fun _ T4=>?_;refine qCN (fun _=>False) (fun _ _ h=>h.elim) (qBx (oB S 0 dc 1) T4 fun n5 _ _ T5=>?_);by_cases k1:(s.token 0).kind=1
 .have al:s.isKind 0 1=true:=decide_eq_true k1;rw[if_pos (.inl k1)]at M;refine g2 al @Bool.not_true ?_;refine qCT fun nx ac ad=>?_;obtain⟨au,aa⟩:=cJ (fun hc=>ho (M.trans hc));have ao:=M.trans (P.ok_bind aa);refine z2 T5.obj @aQ ?_;refine aA.stx (fun O=>(T5.pos au).nx om O) fun h6 T6=>?_;refine qBt (bL S [60,45]) T6 ao ho ?_;intro u s7 v7 n7 h7 b4 ap b6 ae U bd b8;refine zz ?_;refine qBt (Ma) U ap ho ?_;intro a8 s8 v8 n8 h8 b5 ar ai az T8 be b9;obtain⟨ah,rfl,ak,aj,ba,bg,E8⟩:=ai.sh;refine z5 ak aj @aB T8.g1 @qCE ?_;refine aA.st (T8.set1 (.cells (bC 11 0 (s.token 0).s (.vec [.agg ah] 8 true)))) fun h9 T9=>?_;refine qBr (eV S (nd:=nd 11 (s.token 0).s [a8]) (.mk rfl rfl (.vec (.cons E8 .nil))) _) T9 ar ho ?_;intro b3 s10 Dg n10 b7 ax a7 a1 an Y b1 ay;obtain⟨aw,rfl,a3,a2,a4,ab,ag⟩:=a1.sh;refine z7 Y.g2 @qCD a3 a2 ab a4 @aD ?_;exact qC9<|(Y.set2 _).ends (a7) (ag)
 .have al:s.isKind 0 1=false:=decide_eq_false k1;refine g2 al @Bool.not_false ?_;refine qCN (fun _=>False) (fun _ _ h=>h.elim) (qBx (oB S 0 dc 5) T5 fun n7 h7 ae U=>?_);by_cases k5:(s.token 0).kind=5
  .have a6:s.isKind 0 5=true:=decide_eq_true k5;have a5:=U.rep.inf;have bh:=aN b0 T0.rep.inf;cases hq:find jI (s.token 0).s with
   |none=>
    rw[if_neg (by simp[k1,hq])]at M;refine u9 a6 @Bool.not_true @Bool.not_false U.obj U.g1 @qCE a5 @kF hq ?_;refine qCT fun nx ac ad=>?_;refine zz ?_;refine aA.stx (fun O=>(U).nx om O) fun h6 T6=>?_;refine qCK (qBs (lE S EN) T6 M ho (fun a s2 v n2 h2 cv2 a9=>absurd (M.symm.trans a9) (by simp[P.fail])) fun e he n2 h2 _ _=>by(refine zz ?_);exact qC9<|.err he)
   |some q=>
    cases hd:q.defn with
    |true=>
     rw[if_pos (.inr ⟨k5,by simp[hq,hd]⟩)]at M;refine zJ a6 @Bool.not_true @Bool.not_false U.obj U.g1 @qCE a5 @kF hq @Mg.eq_1 hd ?_;refine qCT fun nx ac ad=>?_;obtain⟨au,aa⟩:=cJ (fun hc=>ho (M.trans hc));have ao:=M.trans (P.ok_bind aa);refine z2 U.obj @aQ ?_;refine aA.stx (fun O=>(U.pos au).nx om O) fun h6 T6=>?_;refine qBt (bL S [60,45]) T6 ao ho ?_;intro u s7 v7 n7 h7 b4 ap b6 ae U bd b8;refine zz ?_;refine qBt (Ma) U ap ho ?_;intro a8 s8 v8 n8 h8 b5 ar ai az T8 be b9;obtain⟨ah,rfl,ak,aj,ba,bg,E8⟩:=ai.sh;refine z5 ak aj @aB T8.g1 @qCE ?_;refine aA.st (T8.set1 (.cells (bC 11 0 (s.token 0).s (.vec [.agg ah] 8 true)))) fun h9 T9=>?_;refine qBr (eV S (nd:=nd 11 (s.token 0).s [a8]) (.mk rfl rfl (.vec (.cons E8 .nil))) _) T9 ar ho ?_;intro b3 s10 Dg n10 b7 ax a7 a1 an Y b1 ay;obtain⟨aw,rfl,a3,a2,a4,ab,ag⟩:=a1.sh;refine z7 Y.g2 @qCD a3 a2 ab a4 @aD ?_;exact qC9<|(Y.set2 _).ends (a7) (ag)
    |false=>
     rw[if_neg (by simp[k1,hq,hd])]at M;refine zJ a6 @Bool.not_true @Bool.not_false U.obj U.g1 @qCE a5 @kF hq @Mg.eq_1 hd ?_;refine qCT fun nx ac ad=>?_;refine zz ?_;refine aA.stx (fun O=>(U).nx om O) fun h6 T6=>?_;refine qCK (qBs (lE S EN) T6 M ho (fun a s2 v n2 h2 cv2 a9=>absurd (M.symm.trans a9) (by simp[P.fail])) fun e he n2 h2 _ _=>by(refine zz ?_);exact qC9<|.err he)
  .have a6:s.isKind 0 5=false:=decide_eq_false k5;rw[if_neg (by simp[k1,k5])]at M;refine g3 a6 @Bool.not_true @Bool.not_false ?_;refine qCT fun nx ac ad=>?_;refine zz ?_;refine aA.stx (fun O=>(U).nx om O) fun h6 T6=>?_;refine qCK (qBs (lE S EN) T6 M ho (fun a s2 v n2 h2 cv2 a9=>absurd (M.symm.trans a9) (by simp[P.fail])) fun e he n2 h2 _ _=>by(refine zz ?_);exact qC9<|.err he)
theorem YF {o pm im:Nat}{lv:AV}(f:Nat)(hf:f<1000000000)(Me:∀ k,k<=f->aL Gl Gm Kp 76 [.ref o 0] o pm im lv (cS k) EN)(Md:∀ k,k<=f->∀ fr:Int,aL Gl Gm Kp 229 [.ref o 0,.int .i64 fr,.int .i64 0,.bool false] o pm im lv (fH k fr 0 false) EN) :
  aL Gl Gm Kp 336 [.ref o 0] o pm im lv (P.step 1 >>= fun _=>zL f []) EN:=by
 refine aL.st fun n h cv s T0 ho=>qB6 S 45 [.cell 2 32] Tryz.func336 fun _ _=>?_;have ag:=congrFun ((rfl:(P.step 1 >>= fun _=>zL f [])=(P.step 1 >>= fun _=>zL f []))) s;obtain⟨_,_,_,_⟩:=T0.hd;refine zz ?_;obtain⟨az,ah⟩:=cJ (fun hc=>ho (ag.trans hc));have aw:=ag.trans (P.ok_bind ah);refine z2 T0.obj @aQ ?_;refine qCQ (E0:=[(0,.ref o 0),(2,.ref n 0),(3,.ref (n+1) 0)]) (fun k E nn hh=>∃(L:LS) (l:List Node) (s2:PS) (cv2:AV),E=[(0,.ref o 0),(2,.ref n 0),(3,.ref (n+1) 0)]/\(P.step 1 >>= fun _=>zL f []) s=zL k l s2/\EV l L.xs/\(L=.nil\/∃ b xs,L=.arr b xs xs.length/\xs≠[])/\l.length+k=f/\n+2<=nn/\
   (aE nn hh->St n h o pm im lv cv (L.objs++[(n+1,.cells (bC 45 0 [] L.val)),(n,.cells cC)]) s2 nn hh cv2)) f ?_ ?_ ?_
 .exact sb
 .exact⟨.nil,[],_,cv,rfl,aw,.nil,.inl rfl,by simp,by omega,fun _=>((T0.cell (.cells cC)).pos az).newc _ (.cells (bC 45 0 [] .sl0))⟩
 .rintro k E nn hh hlk hBk ⟨L,l,s5,cv5,rfl,O,ev5,hL,hlen5,hnn,U⟩;cases k with
  |zero=>exact absurd O (fun hc=>ho hc)
  |succ k=>
   have U:=U hlk;have b6:=U.le;have b3:=U.rep.len;rw[zL.eq_2]at O;rcases hL with rfl | ⟨b,xs,rfl,hxs⟩
   .simp only[LS.objs,LS.val,LS.xs,List.nil_append]at U ev5;cases ev5;simp only[List.isEmpty_nil,if_true]at O;rw[qCn]at O;replace O:=nf O;have Y:=aM 1 104 dc dc;refine z2 U.g1 @qCE ?_;refine qCP [(1,4),(1,5)] [] kr ?_;refine z2 U.g1 @qCE ?_;refine qCN (fun _=>False) (fun _ _ h=>h.elim) (qBx (iK S) U fun n6 h6 a3 T6=>?_);have M:=O.trans (P.ok_bind (x:=P.begin) rfl);refine gg ?_;refine qBv (Md k om _) T6 M ho T6.o1 ?_;intro a7 s7 v7 n7 h7 a4 a2 a5 ad ae T7 ay ao;obtain⟨a1,rfl,a9,a6,au,b1,E7⟩:=a5.sh;refine g7 T6.o1 a9 a6 @aB Y T7.g1 @qCE ?_;refine qCT fun nx aj ak=>?_;refine zz ?_;refine aU.mq k ⟨.arr n7 [.agg a1] 1,[a7],s7,a4,rfl,a2,.cons E7 .nil,.inr ⟨_,_,rfl,by simp⟩,by simp;simp at hlen5;omega,by omega,fun aa=>(((T7.cell (.arr 8 [AV.agg a1])).set2 (.cells (bC 45 0 [] (.sl n7 0 1))))).nx om aa⟩
   .simp only[LS.objs,LS.val,LS.xs,List.cons_append,List.nil_append]at U ev5;have b4:b<nn/\n<=b:=U.l1;have b5:n+1<b/\n<=n+1:=U.l2;have al:=ev5.length;have Y:=aM (xs.length+1) 104 om om;have b2:xs.length≠0:=fun h=>hxs (List.length_eq_zero_iff.1 h);have ac:l.isEmpty=false:=by
     cases l with
     |nil=>simp at al;exact absurd (List.length_eq_zero_iff.2 al) b2
     |cons _ _=>rfl
    simp only[ac,Bool.false_eq_true,if_false]at O;refine z2 U.g2 @qCE ?_;refine qCK (qBx (sI S 0 dc [73,78]) U fun n6 h6 a3 T6=>?_);have M:=O.trans (P.ok_bind (x:=P.is 0 [73,78]) rfl);cases hi:s5.isSign 0 [73,78] with
    |false=>
     rw[hi]at M;replace M:=nf M;refine z2 hi @Bool.not_false ?_;have O:=M;clear M;have U:=T6;refine qCP [(1,4),(1,5)] [] kr ?_;refine z2 U.g2 @qCE ?_;refine qCN (fun _=>False) (fun _ _ h=>h.elim) (qBx (iK S) U fun n6 h6 a3 T6=>?_);have M:=O.trans (P.ok_bind (x:=P.begin) rfl);refine gg ?_;refine qBv (Md k om _) T6 M ho T6.o2 ?_;intro a7 s7 v7 n7 h7 a4 a2 a5 ad ae T7 ay ao;obtain⟨a1,rfl,a9,a6,au,b1,E7⟩:=a5.sh;refine g8 T6.o2 a9 a6 @aB Y T7.g2 T7.g1 @qCE ?_;refine qCT fun nx aj ak=>?_;refine zz ?_;refine aU.mq k ⟨.arr n7 (xs++[AV.agg a1]) (xs.length+1),l++[a7],s7,a4,rfl,a2,ev5.append (.cons E7 .nil),.inr ⟨n7,xs++[AV.agg a1],by simp,by simp⟩,by simp;omega,by omega,fun aa=>(((T7.del1.cell (.arr 8 (xs++[AV.agg a1]))).set2 (.cells (bC 45 0 [] (.sl n7 0 (xs.length+1)))))).nx om aa⟩
    |true=>
     rw[hi]at M;replace M:=nt M;obtain⟨b0,ai⟩:=cJ (fun hc=>ho (M.trans hc));have a2:=M.trans (P.ok_bind ai);refine z4 hi T6.obj @aQ @Bool.not_true ?_;refine qCP [(1,3)] [] kr ?_;refine z2 T6.g2 @qCE ?_;refine aZ.st (T6.pos b0) fun h7 T7=>?_;refine qBv (Me k om) T7 a2 ho T7.o2 ?_;intro a8 _ v8 n8 _ _ ax an _ _ T8 _ _;obtain⟨ab,rfl,ar,ap,_,_,E8⟩:=an.sh;refine g8 T7.o2 ar ap @aB Y T8.g2 T8.g1 @qCE ?_;refine qCT fun nx aj ak=>?_;have ee:EV (l++[a8]) (List.take (xs.length+1) (List.drop 0 (xs++[AV.agg ab]))):=(by rw[List.drop_zero,sU];exact ev5.append (.cons E8 .nil));refine z2 T8.g3 @qCD ?_;refine qCJ ⟨by rw[wB];omega,fun x hx=>(ev5.append (.cons E8 .nil)).frozen x (List.mem_of_mem_take hx)⟩ ?_;refine zz ?_;exact qC9<|((((T8.del1.cell (.arr 8 (xs++[AV.agg ab]))).set2 (.cells (bC 45 0 [] (.sl n8 0 (xs.length+1))))).set3 _).del1).ends (ax) (.mk rfl rfl (.vec ee))
end
end Go.Proofs.Pa
