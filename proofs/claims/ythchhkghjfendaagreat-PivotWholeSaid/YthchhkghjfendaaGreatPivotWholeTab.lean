/- The trees of the functions, by their numbers; printed by program. No conditions. -/
import Derived.Test.YthchhkghjfendaaGreatL3
namespace Go.Proofs.YthchhkghjfendaaGreat.Dx
open Go
def sp2:Spec:=⟨[(true,[.sc (.i .i64),.sc (.i .i64),.ro (.sc (.i .u64))])],[(false,[.sc (.i .i64)])]⟩
def lo2_1:TT Unit:=(.ite (.bi .lt (.var 5) (.un .len (.var 2))) (.assert (.bi .le (.int .i64 0) (.var 5)) (.assert (.bi .lt (.var 5) (.un .len (.var 2))) (.call (.bool true) 280 [(.bi .get (.var 2) (.var 5))] 1 (.ite (.un .not (.var 6)) (.yield .ret []) (.yield .cont [(.var 4),(.bi (.add .i64) (.var 5) (.int .i64 1))]))))) (.yield (.ext 0) [(.var 4)]))
def tr2:TT Unit:=(.call (.bool true) 246 [(.var 0),(.var 1),(.var 2)] 1 (.ite (.bi .ne (.var 3) (.int .i64 0)) (.yield .ret [(.int .i64 1)]) (.loop [(.int .i64 0),(.int .i64 0)] lo2_1 (.cons .ret (.yield .ret [(.int .i64 4)]) (.cons (.ext 0) (.yield .ret [(.int .i64 0)]) .nil)))))
def sp3:Spec:=⟨[(false,[.sc (.i .u64)])],[(false,[.sc (.i .u64)])]⟩
def tr3:TT Unit:=(.yield .ret [(.bi (.andNot .u64) (.var 0) (.int .u64 9223372036854775808))])
def sp5:Spec:=⟨[(false,[.sc (.i .u64)])],[(false,[.sc (.i .i64)])]⟩
def tr5:TT Unit:=(.call (.bool true) 280 [(.var 0)] 1 (.call (.un .not (.un .not (.var 1))) 281 [(.var 0)] 1 (.ite (.tri .ite (.un .not (.var 1)) (.bool true) (.bi .eq (.var 2) (.int .i64 0))) (.yield .ret [(.int .i64 0)]) (.call (.bool true) 285 [(.var 0)] 2 (.call (.bool true) 332 [(.var 3)] 1 (.yield .ret [(.bi (.add .i64) (.bi (.sub .i64) (.var 5) (.int .i64 1)) (.var 4))]))))))
def sp7:Spec:=⟨[(false,[.sc (.i .u64)]),(false,[.sc (.i .u64)])],[(false,[.sc .b])]⟩
def tr7:TT Unit:=(.call (.bool true) 9 [(.var 0),(.var 1)] 2 (.yield .ret [(.bi .lt (.var 2) (.int .i64 0))]))
def sp9:Spec:=⟨[(false,[.sc (.i .u64)]),(false,[.sc (.i .u64)])],[(false,[.sc (.i .i64)]),(false,[.sc .b])]⟩
def tr9:TT Unit:=(.scope (.call (.bool true) 281 [(.var 0)] 1 (.ite (.bi .eq (.var 2) (.int .i64 4)) (.yield .norm []) (.call (.bool true) 281 [(.var 1)] 1 (.ite (.bi .eq (.var 3) (.int .i64 4)) (.yield .norm []) (.call (.bool true) 12 [(.var 0)] 1 (.call (.bool true) 12 [(.var 1)] 1 (.ite (.bi .lt (.var 4) (.var 5)) (.yield (.ext 3) []) (.call (.bool true) 12 [(.var 0)] 1 (.call (.bool true) 12 [(.var 1)] 1 (.ite (.bi .gt (.var 6) (.var 7)) (.yield (.ext 4) []) (.yield (.ext 0) []))))))))))) (.cons .norm (.yield .ret [(.int .i64 0),(.bool false)]) (.cons (.ext 3) (.yield .ret [(.int .i64 (-1)),(.bool true)]) (.cons (.ext 4) (.yield .ret [(.int .i64 1),(.bool true)]) (.cons (.ext 0) (.yield .ret [(.int .i64 0),(.bool true)]) .nil)))))
def sp10:Spec:=⟨[(false,[.sc (.i .u64)]),(false,[.sc (.i .i64)])],[(false,[.sc (.i .u64)]),(false,[.sc (.i .u8)])]⟩
def lo10_1:TT Unit:=(.ite (.tri .ite (.bi .lt (.var 7) (.int .i64 (-1130))) (.bi .gt (.var 6) (.int .u64 1)) (.bool false)) (.assert (.bi .ge (.int .u64 1) (.int .i64 0)) (.yield .cont [(.bi (.shr .u64) (.var 6) (.int .u64 1)),(.bi (.add .i64) (.var 7) (.int .i64 1)),(.tri .ite (.var 8) (.bool true) (.bi .eq (.bi (.and .u64) (.var 6) (.int .u64 1)) (.int .u64 1)))])) (.yield (.ext 1) [(.var 6),(.var 7),(.var 8)]))
def tr10:TT Unit:=(.call (.bool true) 281 [(.var 0)] 1 (.ite (.bi .eq (.var 2) (.int .i64 4)) (.yield .ret [(.int .u64 9221120237041090560),(.int .u8 0)]) (.scope (.ite (.bi .eq (.var 2) (.int .i64 3)) (.yield .norm [(.bi .eq (.var 2) (.int .i64 3))]) (.yield .norm [(.bi .eq (.var 2) (.int .i64 0))])) (.cons .norm (.ite (.var 3) (.yield .ret [(.var 0),(.int .u8 0)]) (.call (.bool true) 285 [(.var 0)] 2 (.loop [(.var 4),(.bi (.add .i64) (.var 5) (.bi (.max .i64) (.int .i64 (-2300)) (.bi (.min .i64) (.int .i64 2300) (.var 1)))),(.bool false)] lo10_1 (.cons (.ext 1) (.ite (.bi .lt (.var 7) (.int .i64 (-1130))) (.call (.bool true) 286 [(.var 0)] 1 (.call (.bool true) 283 [(.var 9),(.int .u64 0),(.int .i64 (-1074)),(.bool true)] 2 (.yield .ret [(.var 10),(.var 11)]))) (.call (.bool true) 286 [(.var 0)] 1 (.call (.bool true) 283 [(.var 9),(.var 6),(.var 7),(.var 8)] 2 (.yield .ret [(.var 10),(.var 11)])))) .nil)))) .nil))))
def sp12:Spec:=⟨[(false,[.sc (.i .u64)])],[(false,[.sc (.i .i64)])]⟩
def tr12:TT Unit:=(.call (.bool true) 286 [(.var 0)] 1 (.ite (.var 1) (.yield .ret [(.un (.neg .i64) (.un (.conv .i64) (.bi (.andNot .u64) (.var 0) (.int .u64 9223372036854775808))))]) (.yield .ret [(.un (.conv .i64) (.var 0))])))
def sp68:Spec:=⟨[(false,[.sc (.i .u8)]),(false,[.sc (.i .u8)]),(false,[.ro (.sc (.i .i8))])],[(false,[.sc .b])]⟩
def lo68_1:TT Unit:=(.ite (.tri .ite (.bi .lt (.var 6) (.un .len (.var 7))) (.bi .lt (.var 6) (.un .len (.var 2))) (.bool false)) (.assert (.bi .le (.int .i64 0) (.var 6)) (.assert (.bi .lt (.var 6) (.un .len (.var 2))) (.assert (.bi .ne (.int .i64 5) (.int .i64 0)) (.call (.bool true) 150 [(.un .i2f (.bi (.rem .i64) (.un (.conv .i64) (.bi .get (.var 2) (.var 6))) (.int .i64 5)))] 1 (.assert (.bi .le (.int .i64 0) (.var 6)) (.assert (.bi .lt (.var 6) (.un .len (.var 7))) (.yield .cont [(.bi (.add .i64) (.var 6) (.int .i64 1)),(.tri .set (.var 7) (.var 6) (.var 8))]))))))) (.yield (.ext 0) [(.var 7)]))
def tr68:TT Unit:=(.assert (.bi .ne (.int .u8 5) (.int .u8 0)) (.assert (.bi .ne (.int .u8 5) (.int .u8 0)) (.call (.bool true) 177 [(.un (.conv .i64) (.bi (.rem .u8) (.var 0) (.int .u8 5))),(.un (.conv .i64) (.bi (.rem .u8) (.var 1) (.int .u8 5)))] 3 (.loop [(.int .i64 0),(.var 5)] lo68_1 (.cons (.ext 0) (.call (.bool true) 262 [(.var 3),(.var 4),(.var 6)] 8 (.call (.bool true) 263 [(.var 10),(.var 11),(.var 12)] 2 (.call (.tri .ite (.bi .eq (.var 14) (.int .i64 0)) (.bi .eq (.var 16) (.int .i64 0)) (.bool false)) 181 [(.var 3),(.var 4),(.var 6)] 1 (.call (.tri .ite (.tri .ite (.bi .eq (.var 14) (.int .i64 0)) (.bi .eq (.var 16) (.int .i64 0)) (.bool false)) (.bi .eq (.var 15) (.var 17)) (.bool false)) 141 [(.int .u64 4607182418800017408)] 1 (.call (.tri .ite (.tri .ite (.tri .ite (.bi .eq (.var 14) (.int .i64 0)) (.bi .eq (.var 16) (.int .i64 0)) (.bool false)) (.bi .eq (.var 15) (.var 17)) (.bool false)) (.bi .eq (.var 18) (.int .i64 0)) (.bool false)) 69 [] 1 (.yield .ret [(.tri .ite (.tri .ite (.tri .ite (.tri .ite (.bi .eq (.var 14) (.int .i64 0)) (.bi .eq (.var 16) (.int .i64 0)) (.bool false)) (.bi .eq (.var 15) (.var 17)) (.bool false)) (.bi .eq (.var 18) (.int .i64 0)) (.bool false)) (.var 19) (.bool false))])))))) .nil)))))
def sp69:Spec:=⟨[],[(false,[.sc .b])]⟩
def tr69:TT Unit:=(.call (.bool true) 262 [(.int .i64 1),(.int .i64 2),(.bi .cons (.int .u64 4607182418800017408) (.bi .cons (.int .u64 4613937818241073152) .nil))] 8 (.assert (.tri .ite (.tri .ite (.tri .ite (.bi .eq (.var 7) (.int .i64 0)) (.bi .eq (.un .len (.var 5)) (.int .i64 2)) (.bool false)) (.bi .eq (.un .len (.var 6)) (.int .i64 2)) (.bool false)) (.bi .le (.int .i64 0) (.int .i64 0)) (.bool true)) (.assert (.tri .ite (.tri .ite (.tri .ite (.bi .eq (.var 7) (.int .i64 0)) (.bi .eq (.un .len (.var 5)) (.int .i64 2)) (.bool false)) (.bi .eq (.un .len (.var 6)) (.int .i64 2)) (.bool false)) (.bi .lt (.int .i64 0) (.un .len (.var 6))) (.bool true)) (.assert (.tri .ite (.tri .ite (.tri .ite (.tri .ite (.bi .eq (.var 7) (.int .i64 0)) (.bi .eq (.un .len (.var 5)) (.int .i64 2)) (.bool false)) (.bi .eq (.un .len (.var 6)) (.int .i64 2)) (.bool false)) (.bi .eq (.bi .get (.var 6) (.int .i64 0)) (.int .i64 1)) (.bool false)) (.bi .le (.int .i64 0) (.int .i64 0)) (.bool true)) (.assert (.tri .ite (.tri .ite (.tri .ite (.tri .ite (.bi .eq (.var 7) (.int .i64 0)) (.bi .eq (.un .len (.var 5)) (.int .i64 2)) (.bool false)) (.bi .eq (.un .len (.var 6)) (.int .i64 2)) (.bool false)) (.bi .eq (.bi .get (.var 6) (.int .i64 0)) (.int .i64 1)) (.bool false)) (.bi .lt (.int .i64 0) (.un .len (.var 5))) (.bool true)) (.yield .ret [(.tri .ite (.tri .ite (.tri .ite (.tri .ite (.bi .eq (.var 7) (.int .i64 0)) (.bi .eq (.un .len (.var 5)) (.int .i64 2)) (.bool false)) (.bi .eq (.un .len (.var 6)) (.int .i64 2)) (.bool false)) (.bi .eq (.bi .get (.var 6) (.int .i64 0)) (.int .i64 1)) (.bool false)) (.bi .eq (.bi .get (.var 5) (.int .i64 0)) (.int .u64 4613937818241073152)) (.bool false))]))))))
def sp86:Spec:=⟨[(true,[.sc .b,.ro (.sc (.i .u32))]),(true,[.sc .b,.ro (.sc (.i .u32))])],[(true,[.sc .b,.ro (.sc (.i .u32))])]⟩
def tr86:TT Unit:=(.ite (.bi .beq (.var 0) (.var 2)) (.call (.bool true) 102 [(.var 1),(.var 3)] 1 (.call (.bool true) 91 [(.var 0),(.var 4)] 2 (.yield .ret [(.var 5),(.var 6)]))) (.call (.bool true) 92 [(.var 1),(.var 3)] 1 (.ite (.bi .lt (.var 4) (.int .i64 0)) (.call (.bool true) 101 [(.var 3),(.var 1)] 1 (.call (.bool true) 91 [(.var 2),(.var 5)] 2 (.yield .ret [(.var 6),(.var 7)]))) (.call (.bool true) 101 [(.var 1),(.var 3)] 1 (.call (.bool true) 91 [(.var 0),(.var 5)] 2 (.yield .ret [(.var 6),(.var 7)]))))))
def sp88:Spec:=⟨[(true,[.sc .b,.ro (.sc (.i .u32))])],[(true,[.sc .b,.ro (.sc (.i .u32))])]⟩
def tr88:TT Unit:=(.call (.bool true) 102 [(.var 1),(.var 1)] 1 (.call (.bool true) 91 [(.var 0),(.var 2)] 2 (.yield .ret [(.var 3),(.var 4)])))
def sp89:Spec:=⟨[(true,[.sc .b,.ro (.sc (.i .u32))])],[(true,[.sc .b,.ro (.sc (.i .u32))])]⟩
def lo89_1:TT Unit:=(.ite (.bi .lt (.var 2) (.un .len (.var 1))) (.call (.bool true) 100 [(.var 1),(.bi (.add .i64) (.var 2) (.int .i64 1))] 1 (.assert (.bi .ne (.int .u64 2) (.int .u64 0)) (.call (.bool true) 100 [(.var 1),(.var 2)] 1 (.assert (.bi .ne (.int .u64 2) (.int .u64 0)) (.assert (.bi .le (.int .i64 0) (.var 2)) (.assert (.bi .lt (.var 2) (.un .len (.var 3))) (.yield .cont [(.bi (.add .i64) (.var 2) (.int .i64 1)),(.tri .set (.var 3) (.var 2) (.un (.conv .u32) (.bi (.quo .u64) (.bi (.add .u64) (.bi (.mul .u64) (.bi (.rem .u64) (.var 4) (.int .u64 2)) (.int .u64 4294967296)) (.var 5)) (.int .u64 2))))]))))))) (.yield (.ext 0) [(.var 3)]))
def tr89:TT Unit:=(.assert (.bi .le (.int .i64 0) (.un .len (.var 1))) (.assert (.bi .le (.un .len (.var 1)) (.un .len (.var 1))) (.assert (.bi .le (.un .len (.var 1)) (.int .i64 35184372088832)) (.loop [(.int .i64 0),(.bi .rep (.un .len (.var 1)) (.int .u32 0))] lo89_1 (.cons (.ext 0) (.call (.bool true) 91 [(.var 0),(.var 2)] 2 (.yield .ret [(.var 3),(.var 4)])) .nil)))))
def sp90:Spec:=⟨[(true,[.sc .b,.ro (.sc (.i .u32))])],[(false,[.sc (.i .i64)])]⟩
def lo90_1:TT Unit:=(.ite (.bi .gt (.var 3) (.int .u32 0)) (.assert (.bi .ne (.int .u32 2) (.int .u32 0)) (.yield .cont [(.bi (.add .i64) (.var 2) (.int .i64 1)),(.bi (.quo .u32) (.var 3) (.int .u32 2))])) (.yield (.ext 0) [(.var 2)]))
def tr90:TT Unit:=(.ite (.bi .eq (.un .len (.var 1)) (.int .i64 0)) (.yield .ret [(.int .i64 0)]) (.assert (.bi .le (.int .i64 0) (.bi (.sub .i64) (.un .len (.var 1)) (.int .i64 1))) (.assert (.bi .lt (.bi (.sub .i64) (.un .len (.var 1)) (.int .i64 1)) (.un .len (.var 1))) (.loop [(.bi (.mul .i64) (.int .i64 32) (.bi (.sub .i64) (.un .len (.var 1)) (.int .i64 1))),(.bi .get (.var 1) (.bi (.sub .i64) (.un .len (.var 1)) (.int .i64 1)))] lo90_1 (.cons (.ext 0) (.yield .ret [(.var 2)]) .nil)))))
def sp91:Spec:=⟨[(false,[.sc .b]),(false,[.ro (.sc (.i .u32))])],[(true,[.sc .b,.ro (.sc (.i .u32))])]⟩
def lo91_1:TT Unit:=(.assert (.tri .ite (.bi .gt (.var 2) (.int .i64 0)) (.bi .le (.int .i64 0) (.bi (.sub .i64) (.var 2) (.int .i64 1))) (.bool true)) (.assert (.tri .ite (.bi .gt (.var 2) (.int .i64 0)) (.bi .lt (.bi (.sub .i64) (.var 2) (.int .i64 1)) (.un .len (.var 1))) (.bool true)) (.ite (.tri .ite (.bi .gt (.var 2) (.int .i64 0)) (.bi .eq (.bi .get (.var 1) (.bi (.sub .i64) (.var 2) (.int .i64 1))) (.int .u32 0)) (.bool false)) (.yield .cont [(.bi (.sub .i64) (.var 2) (.int .i64 1))]) (.yield (.ext 0) [(.var 2)]))))
def tr91:TT Unit:=(.loop [(.un .len (.var 1))] lo91_1 (.cons (.ext 0) (.ite (.bi .eq (.var 2) (.int .i64 0)) (.yield .ret [(.bool false),.nil]) (.assert (.bi .le (.int .i64 0) (.var 2)) (.assert (.bi .le (.var 2) (.un .len (.var 1))) (.yield .ret [(.var 0),(.bi .take (.var 1) (.var 2))])))) .nil))
def sp92:Spec:=⟨[(false,[.ro (.sc (.i .u32))]),(false,[.ro (.sc (.i .u32))])],[(false,[.sc (.i .i64)])]⟩
def lo92_1:TT Unit:=(.ite (.bi .ge (.var 3) (.int .i64 0)) (.call (.bool true) 100 [(.var 0),(.var 3)] 1 (.call (.bool true) 100 [(.var 1),(.var 3)] 1 (.ite (.bi .lt (.var 4) (.var 5)) (.yield .ret [(.int .i64 (-1))]) (.call (.bool true) 100 [(.var 0),(.var 3)] 1 (.call (.bool true) 100 [(.var 1),(.var 3)] 1 (.ite (.bi .gt (.var 6) (.var 7)) (.yield .ret [(.int .i64 1)]) (.yield .cont [(.var 2),(.bi (.sub .i64) (.var 3) (.int .i64 1))]))))))) (.yield (.ext 0) [(.var 2)]))
def tr92:TT Unit:=(.loop [(.int .i64 0),(.bi (.max .i64) (.un .len (.var 0)) (.un .len (.var 1)))] lo92_1 (.cons .ret (.yield .ret [(.var 2)]) (.cons (.ext 0) (.yield .ret [(.int .i64 0)]) .nil)))
def sp93:Spec:=⟨[(true,[.sc .b,.ro (.sc (.i .u32))]),(true,[.sc .b,.ro (.sc (.i .u32))])],[(true,[.sc .b,.ro (.sc (.i .u32))])]⟩
def lo93_1:TT Unit:=(.ite (.bi .ge (.var 4) (.int .i64 0)) (.assert (.bi .le (.un .len (.bi .app (.bi .cons (.int .u32 0) .nil) (.var 5))) (.int .i64 35184372088832)) (.assert (.bi .le (.int .i64 0) (.var 4)) (.assert (.bi .lt (.var 4) (.un .len (.var 3))) (.call (.bool true) 103 [(.var 1),(.bi .get (.var 3) (.var 4))] 1 (.call (.bool true) 102 [(.bi .app (.bi .cons (.int .u32 0) .nil) (.var 5)),(.var 6)] 1 (.yield .cont [(.bi (.sub .i64) (.var 4) (.int .i64 1)),(.var 7)])))))) (.yield (.ext 0) [(.var 5)]))
def tr93:TT Unit:=(.loop [(.bi (.sub .i64) (.un .len (.var 3)) (.int .i64 1)),.nil] lo93_1 (.cons (.ext 0) (.call (.bool true) 91 [(.bi .bne (.var 0) (.var 2)),(.var 4)] 2 (.yield .ret [(.var 5),(.var 6)])) .nil))
def sp94:Spec:=⟨[(true,[.sc .b,.ro (.sc (.i .u32))])],[(true,[.sc .b,.ro (.sc (.i .u32))])]⟩
def tr94:TT Unit:=(.call (.bool true) 91 [(.un .not (.var 0)),(.var 1)] 2 (.yield .ret [(.var 2),(.var 3)]))
def sp95:Spec:=⟨[(true,[.sc .b,.ro (.sc (.i .u32))])],[(false,[.sc .b])]⟩
def tr95:TT Unit:=(.assert (.tri .ite (.bi .gt (.un .len (.var 1)) (.int .i64 0)) (.bi .le (.int .i64 0) (.int .i64 0)) (.bool true)) (.assert (.tri .ite (.bi .gt (.un .len (.var 1)) (.int .i64 0)) (.bi .lt (.int .i64 0) (.un .len (.var 1))) (.bool true)) (.assert (.tri .ite (.bi .gt (.un .len (.var 1)) (.int .i64 0)) (.bi .ne (.int .u32 2) (.int .u32 0)) (.bool true)) (.yield .ret [(.tri .ite (.bi .gt (.un .len (.var 1)) (.int .i64 0)) (.bi .eq (.bi (.rem .u32) (.bi .get (.var 1) (.int .i64 0)) (.int .u32 2)) (.int .u32 1)) (.bool false))]))))
def sp96:Spec:=⟨[(false,[.sc (.i .i64)])],[(true,[.sc .b,.ro (.sc (.i .u32))])]⟩
def tr96:TT Unit:=(.ite (.bi .lt (.var 0) (.int .i64 0)) (.assert (.bi .ne (.int .u64 4294967296) (.int .u64 0)) (.assert (.bi .ne (.int .u64 4294967296) (.int .u64 0)) (.call (.bool true) 91 [(.bool true),(.bi .cons (.un (.conv .u32) (.bi (.rem .u64) (.bi (.add .u64) (.un (.conv .u64) (.un (.neg .i64) (.bi (.add .i64) (.var 0) (.int .i64 1)))) (.int .u64 1)) (.int .u64 4294967296))) (.bi .cons (.un (.conv .u32) (.bi (.quo .u64) (.bi (.add .u64) (.un (.conv .u64) (.un (.neg .i64) (.bi (.add .i64) (.var 0) (.int .i64 1)))) (.int .u64 1)) (.int .u64 4294967296))) .nil))] 2 (.yield .ret [(.var 1),(.var 2)])))) (.assert (.bi .ne (.int .i64 4294967296) (.int .i64 0)) (.assert (.bi .ne (.int .i64 4294967296) (.int .i64 0)) (.call (.bool true) 91 [(.bool false),(.bi .cons (.un (.conv .u32) (.bi (.rem .i64) (.var 0) (.int .i64 4294967296))) (.bi .cons (.un (.conv .u32) (.bi (.quo .i64) (.var 0) (.int .i64 4294967296))) .nil))] 2 (.yield .ret [(.var 1),(.var 2)])))))
def sp98:Spec:=⟨[(true,[.sc .b,.ro (.sc (.i .u32))]),(false,[.sc (.i .i64)])],[(true,[.sc .b,.ro (.sc (.i .u32))])]⟩
def lo98_1:TT Unit:=(.ite (.tri .ite (.bi .ge (.var 3) (.int .i64 32)) (.bi .gt (.un .len (.var 5)) (.int .i64 0)) (.bool false)) (.assert (.bi .le (.un .len (.bi .app (.bi .cons (.int .u32 0) .nil) (.var 5))) (.int .i64 35184372088832)) (.call (.bool true) 91 [(.var 4),(.bi .app (.bi .cons (.int .u32 0) .nil) (.var 5))] 2 (.yield .cont [(.bi (.sub .i64) (.var 3) (.int .i64 32)),(.var 6),(.var 7)]))) (.yield (.ext 0) [(.var 3),(.var 4),(.var 5)]))
def lo98_2:TT Unit:=(.ite (.tri .ite (.bi .gt (.var 6) (.int .i64 0)) (.bi .gt (.un .len (.var 8)) (.int .i64 0)) (.bool false)) (.call (.bool true) 88 [(.var 7),(.var 8)] 2 (.yield .cont [(.bi (.sub .i64) (.var 6) (.int .i64 1)),(.var 9),(.var 10)])) (.yield (.ext 2) [(.var 6),(.var 7),(.var 8)]))
def lo98_3:TT Unit:=(.ite (.tri .ite (.bi .le (.var 9) (.int .i64 (-32))) (.bi .gt (.un .len (.var 11)) (.int .i64 0)) (.bool false)) (.assert (.bi .le (.int .i64 0) (.int .i64 1)) (.assert (.bi .le (.int .i64 1) (.un .len (.var 11))) (.call (.bool true) 91 [(.var 10),(.bi .drop (.var 11) (.int .i64 1))] 2 (.yield .cont [(.bi (.add .i64) (.var 9) (.int .i64 32)),(.var 12),(.var 13)])))) (.yield (.ext 4) [(.var 9),(.var 10),(.var 11)]))
def lo98_4:TT Unit:=(.ite (.tri .ite (.bi .lt (.var 12) (.int .i64 0)) (.bi .gt (.un .len (.var 14)) (.int .i64 0)) (.bool false)) (.call (.bool true) 89 [(.var 13),(.var 14)] 2 (.yield .cont [(.bi (.add .i64) (.var 12) (.int .i64 1)),(.var 15),(.var 16)])) (.yield (.ext 6) [(.var 13),(.var 14)]))
def tr98:TT Unit:=(.loop [(.var 2),(.var 0),(.var 1)] lo98_1 (.cons (.ext 0) (.loop [(.var 3),(.var 4),(.var 5)] lo98_2 (.cons (.ext 2) (.loop [(.var 6),(.var 7),(.var 8)] lo98_3 (.cons (.ext 4) (.loop [(.var 9),(.var 10),(.var 11)] lo98_4 (.cons (.ext 6) (.yield .ret [(.var 12),(.var 13)]) .nil)) .nil)) .nil)) .nil))
def sp99:Spec:=⟨[(true,[.sc .b,.ro (.sc (.i .u32))]),(true,[.sc .b,.ro (.sc (.i .u32))])],[(true,[.sc .b,.ro (.sc (.i .u32))])]⟩
def tr99:TT Unit:=(.call (.bool true) 94 [(.var 2),(.var 3)] 2 (.call (.bool true) 86 [(.var 0),(.var 1),(.var 4),(.var 5)] 2 (.yield .ret [(.var 6),(.var 7)])))
def sp100:Spec:=⟨[(false,[.ro (.sc (.i .u32))]),(false,[.sc (.i .i64)])],[(false,[.sc (.i .u64)])]⟩
def tr100:TT Unit:=(.ite (.tri .ite (.bi .ge (.var 1) (.int .i64 0)) (.bi .lt (.var 1) (.un .len (.var 0))) (.bool false)) (.assert (.bi .le (.int .i64 0) (.var 1)) (.assert (.bi .lt (.var 1) (.un .len (.var 0))) (.yield .ret [(.un (.conv .u64) (.bi .get (.var 0) (.var 1)))]))) (.yield .ret [(.int .u64 0)]))
def sp101:Spec:=⟨[(false,[.ro (.sc (.i .u32))]),(false,[.ro (.sc (.i .u32))])],[(false,[.ro (.sc (.i .u32))])]⟩
def lo101_1:TT Unit:=(.ite (.bi .lt (.var 3) (.un .len (.var 0))) (.call (.bool true) 100 [(.var 0),(.var 3)] 1 (.call (.bool true) 100 [(.var 1),(.var 3)] 1 (.assert (.bi .ne (.int .u64 4294967296) (.int .u64 0)) (.assert (.bi .le (.un .len (.bi .app (.var 4) (.bi .cons (.un (.conv .u32) (.bi (.rem .u64) (.bi (.sub .u64) (.bi (.sub .u64) (.bi (.add .u64) (.int .u64 4294967296) (.var 5)) (.var 6)) (.var 2)) (.int .u64 4294967296))) .nil))) (.int .i64 35184372088832)) (.assert (.bi .ne (.int .u64 4294967296) (.int .u64 0)) (.yield .cont [(.bi (.sub .u64) (.int .u64 1) (.bi (.quo .u64) (.bi (.sub .u64) (.bi (.sub .u64) (.bi (.add .u64) (.int .u64 4294967296) (.var 5)) (.var 6)) (.var 2)) (.int .u64 4294967296))),(.bi (.add .i64) (.var 3) (.int .i64 1)),(.bi .app (.var 4) (.bi .cons (.un (.conv .u32) (.bi (.rem .u64) (.bi (.sub .u64) (.bi (.sub .u64) (.bi (.add .u64) (.int .u64 4294967296) (.var 5)) (.var 6)) (.var 2)) (.int .u64 4294967296))) .nil))])))))) (.yield (.ext 0) [(.var 4)]))
def tr101:TT Unit:=(.loop [(.int .u64 0),(.int .i64 0),.nil] lo101_1 (.cons (.ext 0) (.yield .ret [(.var 2)]) .nil))
def sp102:Spec:=⟨[(false,[.ro (.sc (.i .u32))]),(false,[.ro (.sc (.i .u32))])],[(false,[.ro (.sc (.i .u32))])]⟩
def lo102_1:TT Unit:=(.ite (.bi .le (.var 3) (.bi (.max .i64) (.un .len (.var 0)) (.un .len (.var 1)))) (.call (.bool true) 100 [(.var 0),(.var 3)] 1 (.call (.bool true) 100 [(.var 1),(.var 3)] 1 (.assert (.bi .ne (.int .u64 4294967296) (.int .u64 0)) (.assert (.bi .le (.un .len (.bi .app (.var 4) (.bi .cons (.un (.conv .u32) (.bi (.rem .u64) (.bi (.add .u64) (.bi (.add .u64) (.var 5) (.var 6)) (.var 2)) (.int .u64 4294967296))) .nil))) (.int .i64 35184372088832)) (.assert (.bi .ne (.int .u64 4294967296) (.int .u64 0)) (.yield .cont [(.bi (.quo .u64) (.bi (.add .u64) (.bi (.add .u64) (.var 5) (.var 6)) (.var 2)) (.int .u64 4294967296)),(.bi (.add .i64) (.var 3) (.int .i64 1)),(.bi .app (.var 4) (.bi .cons (.un (.conv .u32) (.bi (.rem .u64) (.bi (.add .u64) (.bi (.add .u64) (.var 5) (.var 6)) (.var 2)) (.int .u64 4294967296))) .nil))])))))) (.yield (.ext 0) [(.var 4)]))
def tr102:TT Unit:=(.loop [(.int .u64 0),(.int .i64 0),.nil] lo102_1 (.cons (.ext 0) (.yield .ret [(.var 2)]) .nil))
def sp103:Spec:=⟨[(false,[.ro (.sc (.i .u32))]),(false,[.sc (.i .u32)])],[(false,[.ro (.sc (.i .u32))])]⟩
def lo103_1:TT Unit:=(.ite (.bi .lt (.var 3) (.un .len (.var 0))) (.assert (.bi .le (.int .i64 0) (.var 3)) (.assert (.bi .lt (.var 3) (.un .len (.var 0))) (.assert (.bi .ne (.int .u64 4294967296) (.int .u64 0)) (.assert (.bi .le (.un .len (.bi .app (.var 4) (.bi .cons (.un (.conv .u32) (.bi (.rem .u64) (.bi (.add .u64) (.bi (.mul .u64) (.un (.conv .u64) (.bi .get (.var 0) (.var 3))) (.un (.conv .u64) (.var 1))) (.var 2)) (.int .u64 4294967296))) .nil))) (.int .i64 35184372088832)) (.assert (.bi .ne (.int .u64 4294967296) (.int .u64 0)) (.yield .cont [(.bi (.quo .u64) (.bi (.add .u64) (.bi (.mul .u64) (.un (.conv .u64) (.bi .get (.var 0) (.var 3))) (.un (.conv .u64) (.var 1))) (.var 2)) (.int .u64 4294967296)),(.bi (.add .i64) (.var 3) (.int .i64 1)),(.bi .app (.var 4) (.bi .cons (.un (.conv .u32) (.bi (.rem .u64) (.bi (.add .u64) (.bi (.mul .u64) (.un (.conv .u64) (.bi .get (.var 0) (.var 3))) (.un (.conv .u64) (.var 1))) (.var 2)) (.int .u64 4294967296))) .nil))])))))) (.yield (.ext 0) [(.var 2),(.var 4)]))
def tr103:TT Unit:=(.loop [(.int .u64 0),(.int .i64 0),.nil] lo103_1 (.cons (.ext 0) (.assert (.bi .le (.un .len (.bi .app (.var 3) (.bi .cons (.un (.conv .u32) (.var 2)) .nil))) (.int .i64 35184372088832)) (.yield .ret [(.bi .app (.var 3) (.bi .cons (.un (.conv .u32) (.var 2)) .nil))])) .nil))
def sp106:Spec:=⟨[(true,[.sc .b,.ro (.sc (.i .u32)),.sc (.i .i64)]),(false,[.sc (.i .i64)])],[(true,[.sc .b,.ro (.sc (.i .u32))])]⟩
def tr106:TT Unit:=(.ite (.bi .eq (.un .len (.var 1)) (.int .i64 0)) (.yield .ret [(.var 0),(.var 1)]) (.call (.bool true) 98 [(.var 0),(.var 1),(.bi (.sub .i64) (.var 2) (.var 3))] 2 (.yield .ret [(.var 4),(.var 5)])))
def sp110:Spec:=⟨[(true,[.sc .b,.ro (.sc (.i .u32))]),(false,[.sc (.i .i64)])],[(true,[.sc .b,.ro (.sc (.i .u32)),.sc (.i .i64)])]⟩
def lo110_1:TT Unit:=(.assert (.bi .le (.int .i64 0) (.int .i64 0)) (.assert (.bi .lt (.int .i64 0) (.un .len (.var 5))) (.ite (.bi .eq (.bi .get (.var 5) (.int .i64 0)) (.int .u32 0)) (.assert (.bi .le (.int .i64 0) (.int .i64 1)) (.assert (.bi .le (.int .i64 1) (.un .len (.var 5))) (.call (.bool true) 91 [(.var 4),(.bi .drop (.var 5) (.int .i64 1))] 2 (.yield .cont [(.bi (.add .i64) (.var 3) (.int .i64 32)),(.var 6),(.var 7)])))) (.yield (.ext 0) [(.var 3),(.var 4),(.var 5)]))))
def lo110_2:TT Unit:=(.call (.bool true) 95 [(.var 7),(.var 8)] 1 (.ite (.un .not (.var 9)) (.call (.bool true) 89 [(.var 7),(.var 8)] 2 (.yield .cont [(.bi (.add .i64) (.var 6) (.int .i64 1)),(.var 10),(.var 11)])) (.yield (.ext 2) [(.var 6),(.var 7),(.var 8)])))
def tr110:TT Unit:=(.ite (.bi .eq (.un .len (.var 1)) (.int .i64 0)) (.yield .ret [(.bool false),.nil,(.int .i64 0)]) (.loop [(.var 2),(.var 0),(.var 1)] lo110_1 (.cons (.ext 0) (.loop [(.var 3),(.var 4),(.var 5)] lo110_2 (.cons (.ext 2) (.yield .ret [(.var 7),(.var 8),(.var 6)]) .nil)) .nil)))
def sp114:Spec:=⟨[(true,[.sc .b,.ro (.sc (.i .u32)),.sc (.i .i64)])],[(false,[.sc (.i .i64)])]⟩
def tr114:TT Unit:=(.ite (.bi .eq (.un .len (.var 1)) (.int .i64 0)) (.yield .ret [(.int .i64 0)]) (.call (.bool true) 90 [(.var 0),(.var 1)] 1 (.yield .ret [(.bi (.add .i64) (.var 3) (.var 2))])))
def sp115:Spec:=⟨[(false,[.ro (.sl (.agg (.cons (.sc .b) (.cons (.sl (.sc (.i .u32))) .nil))))])],[(false,[.sc (.i .i64)])]⟩
def lo115_2:TT Unit:=(.ite (.bi .lt (.var 6) (.un .len (.var 7))) (.scope (.assert (.bi .le (.int .i64 0) (.var 6)) (.assert (.bi .lt (.var 6) (.un .len (.var 7))) (.assert (.bi .le (.int .i64 0) (.var 2)) (.assert (.bi .lt (.var 2) (.un .len (.bi .get (.var 7) (.var 6)))) (.call (.bool true) 119 [(.un (.fld 0) (.bi .get (.bi .get (.var 7) (.var 6)) (.var 2))),(.un (.fld 1) (.bi .get (.bi .get (.var 7) (.var 6)) (.var 2)))] 1 (.ite (.un .not (.var 8)) (.assert (.bi .le (.int .i64 0) (.var 6)) (.assert (.bi .lt (.var 6) (.un .len (.var 7))) (.assert (.bi .le (.int .i64 0) (.var 1)) (.assert (.bi .lt (.var 1) (.un .len (.var 7))) (.assert (.bi .le (.int .i64 0) (.var 2)) (.assert (.bi .lt (.var 2) (.un .len (.bi .get (.var 7) (.var 1)))) (.assert (.bi .le (.int .i64 0) (.var 1)) (.assert (.bi .lt (.var 1) (.un .len (.var 7))) (.assert (.bi .le (.int .i64 0) (.var 6)) (.assert (.bi .lt (.var 6) (.un .len (.var 7))) (.assert (.bi .le (.int .i64 0) (.var 2)) (.assert (.bi .lt (.var 2) (.un .len (.bi .get (.var 7) (.var 6)))) (.call (.bool true) 117 [(.bi .get (.var 7) (.var 6)),(.un (.fld 0) (.bi .get (.bi .get (.var 7) (.var 1)) (.var 2))),(.un (.fld 1) (.bi .get (.bi .get (.var 7) (.var 1)) (.var 2))),(.bi .get (.var 7) (.var 1)),(.un (.fld 0) (.bi .get (.bi .get (.var 7) (.var 6)) (.var 2))),(.un (.fld 1) (.bi .get (.bi .get (.var 7) (.var 6)) (.var 2)))] 1 (.assert (.bi .le (.int .i64 0) (.var 6)) (.assert (.bi .lt (.var 6) (.un .len (.var 7))) (.yield .norm [(.tri .set (.var 7) (.var 6) (.var 9))])))))))))))))))) (.yield .norm [(.var 7)]))))))) (.cons .norm (.yield .cont [(.bi (.add .i64) (.var 6) (.int .i64 1)),(.var 8)]) .nil)) (.yield (.ext 2) [(.var 7)]))
def lo115_1:TT Unit:=(.call (.bool true) 116 [(.var 0)] 1 (.ite (.bi .lt (.var 2) (.var 4)) (.scope (.call (.bool true) 118 [(.var 3),(.var 1),(.var 2)] 1 (.ite (.bi .lt (.var 5) (.int .i64 0)) (.yield .norm [(.var 1),(.var 3)]) (.assert (.bi .le (.un .len (.var 3)) (.int .i64 5864062014805)) (.assert (.bi .le (.int .i64 0) (.var 5)) (.assert (.bi .lt (.var 5) (.un .len (.var 3))) (.assert (.bi .le (.int .i64 0) (.var 1)) (.assert (.bi .lt (.var 1) (.un .len (.var 3))) (.assert (.bi .le (.int .i64 0) (.var 1)) (.assert (.bi .lt (.var 1) (.un .len (.var 3))) (.assert (.bi .le (.int .i64 0) (.var 5)) (.assert (.bi .lt (.var 5) (.un .len (.tri .set (.var 3) (.var 1) (.bi .get (.var 3) (.var 5))))) (.loop [(.bi (.add .i64) (.var 1) (.int .i64 1)),(.tri .set (.tri .set (.var 3) (.var 1) (.bi .get (.var 3) (.var 5))) (.var 5) (.bi .get (.var 3) (.var 1)))] lo115_2 (.cons (.ext 2) (.yield .norm [(.bi (.add .i64) (.var 1) (.int .i64 1)),(.var 6)]) .nil))))))))))))) (.cons .norm (.yield .cont [(.var 5),(.bi (.add .i64) (.var 2) (.int .i64 1)),(.var 6)]) .nil)) (.yield (.ext 0) [(.var 1)])))
def tr115:TT Unit:=(.assert (.bi .le (.un .len (.var 0)) (.int .i64 5864062014805)) (.loop [(.int .i64 0),(.int .i64 0),(.var 0)] lo115_1 (.cons (.ext 0) (.yield .ret [(.var 1)]) .nil)))
def sp116:Spec:=⟨[(false,[.ro (.sl (.agg (.cons (.sc .b) (.cons (.sl (.sc (.i .u32))) .nil))))])],[(false,[.sc (.i .i64)])]⟩
def tr116:TT Unit:=(.ite (.bi .eq (.un .len (.var 0)) (.int .i64 0)) (.yield .ret [(.int .i64 0)]) (.assert (.bi .le (.int .i64 0) (.int .i64 0)) (.assert (.bi .lt (.int .i64 0) (.un .len (.var 0))) (.yield .ret [(.un .len (.bi .get (.var 0) (.int .i64 0)))]))))
def sp117:Spec:=⟨[(false,[.ro (.agg (.cons (.sc .b) (.cons (.sl (.sc (.i .u32))) .nil)))]),(true,[.sc .b,.ro (.sc (.i .u32))]),(false,[.ro (.agg (.cons (.sc .b) (.cons (.sl (.sc (.i .u32))) .nil)))]),(true,[.sc .b,.ro (.sc (.i .u32))])],[(false,[.ro (.agg (.cons (.sc .b) (.cons (.sl (.sc (.i .u32))) .nil)))])]⟩
def lo117_1:TT Unit:=(.ite (.bi .lt (.var 6) (.un .len (.var 0))) (.assert (.bi .le (.int .i64 0) (.var 6)) (.assert (.bi .lt (.var 6) (.un .len (.var 0))) (.call (.bool true) 93 [(.un (.fld 0) (.bi .get (.var 0) (.var 6))),(.un (.fld 1) (.bi .get (.var 0) (.var 6))),(.var 1),(.var 2)] 2 (.assert (.bi .le (.int .i64 0) (.var 6)) (.assert (.bi .lt (.var 6) (.un .len (.var 3))) (.call (.bool true) 93 [(.un (.fld 0) (.bi .get (.var 3) (.var 6))),(.un (.fld 1) (.bi .get (.var 3) (.var 6))),(.var 4),(.var 5)] 2 (.call (.bool true) 99 [(.var 8),(.var 9),(.var 10),(.var 11)] 2 (.assert (.bi .le (.un .len (.bi .app (.var 7) (.bi .cons (.un .toA (.bi .cons (.var 12) (.bi .cons (.var 13) .nil))) .nil))) (.int .i64 4398046511104)) (.yield .cont [(.bi (.add .i64) (.var 6) (.int .i64 1)),(.bi .app (.var 7) (.bi .cons (.un .toA (.bi .cons (.var 12) (.bi .cons (.var 13) .nil))) .nil))]))))))))) (.yield (.ext 0) [(.var 7)]))
def tr117:TT Unit:=(.loop [(.int .i64 0),.nil] lo117_1 (.cons (.ext 0) (.yield .ret [(.var 6)]) .nil))
def sp118:Spec:=⟨[(false,[.ro (.sl (.agg (.cons (.sc .b) (.cons (.sl (.sc (.i .u32))) .nil))))]),(false,[.sc (.i .i64)]),(false,[.sc (.i .i64)])],[(false,[.sc (.i .i64)])]⟩
def lo118_1:TT Unit:=(.ite (.bi .lt (.var 4) (.un .len (.var 0))) (.assert (.bi .le (.int .i64 0) (.var 4)) (.assert (.bi .lt (.var 4) (.un .len (.var 0))) (.assert (.bi .le (.int .i64 0) (.var 2)) (.assert (.bi .lt (.var 2) (.un .len (.bi .get (.var 0) (.var 4)))) (.call (.bool true) 119 [(.un (.fld 0) (.bi .get (.bi .get (.var 0) (.var 4)) (.var 2))),(.un (.fld 1) (.bi .get (.bi .get (.var 0) (.var 4)) (.var 2)))] 1 (.ite (.un .not (.var 5)) (.yield .ret [(.var 4)]) (.yield .cont [(.var 3),(.bi (.add .i64) (.var 4) (.int .i64 1))]))))))) (.yield (.ext 0) [(.var 3)]))
def tr118:TT Unit:=(.loop [(.int .i64 0),(.var 1)] lo118_1 (.cons .ret (.yield .ret [(.var 3)]) (.cons (.ext 0) (.yield .ret [(.int .i64 (-1))]) .nil)))
def sp119:Spec:=⟨[(true,[.sc .b,.ro (.sc (.i .u32))])],[(false,[.sc .b])]⟩
def tr119:TT Unit:=(.yield .ret [(.bi .eq (.un .len (.var 1)) (.int .i64 0))])
def sp120:Spec:=⟨[(false,[.sc (.i .u64)])],[(false,[.sc .b])]⟩
def tr120:TT Unit:=(.call (.bool true) 126 [(.var 0)] 1 (.yield .ret [(.bi .lt (.var 1) (.int .i64 2047))]))
def sp121:Spec:=⟨[(false,[.sc (.i .u64)])],[(false,[.sc (.i .u64)])]⟩
def tr121:TT Unit:=(.assert (.bi .ne (.int .u64 4503599627370496) (.int .u64 0)) (.yield .ret [(.bi (.rem .u64) (.var 0) (.int .u64 4503599627370496))]))
def sp122:Spec:=⟨[(false,[.sc (.i .u64)])],[(false,[.sc (.i .i64)])]⟩
def tr122:TT Unit:=(.call (.bool true) 126 [(.var 0)] 1 (.ite (.bi .eq (.var 1) (.int .i64 2047)) (.call (.bool true) 121 [(.var 0)] 1 (.ite (.bi .eq (.var 2) (.int .u64 0)) (.yield .ret [(.int .i64 3)]) (.yield .ret [(.int .i64 4)]))) (.call (.bool true) 126 [(.var 0)] 1 (.ite (.bi .gt (.var 2) (.int .i64 0)) (.yield .ret [(.int .i64 2)]) (.call (.bool true) 121 [(.var 0)] 1 (.ite (.bi .gt (.var 3) (.int .u64 0)) (.yield .ret [(.int .i64 1)]) (.yield .ret [(.int .i64 0)])))))))
def sp125:Spec:=⟨[(false,[.sc (.i .u64)])],[(false,[.sc .b])]⟩
def tr125:TT Unit:=(.assert (.bi .ne (.int .u64 9223372036854775808) (.int .u64 0)) (.yield .ret [(.bi .eq (.bi (.quo .u64) (.var 0) (.int .u64 9223372036854775808)) (.int .u64 1))]))
def sp126:Spec:=⟨[(false,[.sc (.i .u64)])],[(false,[.sc (.i .i64)])]⟩
def tr126:TT Unit:=(.assert (.bi .ne (.int .u64 9223372036854775808) (.int .u64 0)) (.assert (.bi .ne (.int .u64 4503599627370496) (.int .u64 0)) (.yield .ret [(.un (.conv .i64) (.bi (.quo .u64) (.bi (.rem .u64) (.var 0) (.int .u64 9223372036854775808)) (.int .u64 4503599627370496)))])))
def sp128:Spec:=⟨[(false,[.sc (.i .u64)])],[(true,[.sc .b,.ro (.sc (.i .u32)),.sc (.i .i64)])]⟩
def tr128:TT Unit:=(.call (.bool true) 121 [(.var 0)] 1 (.call (.bool true) 96 [(.un (.conv .i64) (.var 1))] 2 (.scope (.call (.bool true) 126 [(.var 0)] 1 (.ite (.bi .gt (.var 4) (.int .i64 0)) (.call (.bool true) 121 [(.var 0)] 1 (.call (.bool true) 96 [(.un (.conv .i64) (.bi (.add .u64) (.var 5) (.int .u64 4503599627370496)))] 2 (.call (.bool true) 126 [(.var 0)] 1 (.yield .norm [(.bi (.sub .i64) (.var 8) (.int .i64 1075)),(.var 6),(.var 7)])))) (.yield .norm [(.int .i64 (-1074)),(.var 2),(.var 3)]))) (.cons .norm (.scope (.call (.bool true) 125 [(.var 0)] 1 (.ite (.var 7) (.call (.bool true) 94 [(.var 5),(.var 6)] 2 (.yield .norm [(.var 8),(.var 9)])) (.yield .norm [(.var 5),(.var 6)]))) (.cons .norm (.call (.bool true) 110 [(.var 7),(.var 8),(.var 4)] 3 (.yield .ret [(.var 9),(.var 10),(.var 11)])) .nil)) .nil))))
def sp134:Spec:=⟨[(false,[.sc (.i .u64)])],[(false,[.sc (.i .u64)])]⟩
def tr134:TT Unit:=(.call (.bool true) 122 [(.var 0)] 1 (.ite (.bi .eq (.var 1) (.int .i64 4)) (.yield .ret [(.int .u64 9221120237041090560)]) (.yield .ret [(.var 0)])))
def sp141:Spec:=⟨[(false,[.sc (.i .u64)])],[(false,[.sc (.i .i64)])]⟩
def tr141:TT Unit:=(.call (.bool true) 120 [(.var 0)] 1 (.call (.un .not (.un .not (.var 1))) 122 [(.var 0)] 1 (.ite (.tri .ite (.un .not (.var 1)) (.bool true) (.bi .eq (.var 2) (.int .i64 0))) (.yield .ret [(.int .i64 0)]) (.call (.bool true) 128 [(.var 0)] 3 (.call (.bool true) 114 [(.var 3),(.var 4),(.var 5)] 1 (.yield .ret [(.bi (.sub .i64) (.var 6) (.int .i64 1))]))))))
def sp150:Spec:=⟨[(false,[.sc .f])],[(false,[.sc (.i .u64)])]⟩
def tr150:TT Unit:=(.call (.bool true) 134 [(.un .f2b (.var 0))] 1 (.yield .ret [(.var 1)]))
def sp166:Spec:=⟨[(true,[.sc (.i .i64),.sc (.i .i64),.ro (.sc (.i .u64))]),(false,[.sc (.i .i64)]),(false,[.sc (.i .i64)])],[(false,[.sc (.i .u64)])]⟩
def tr166:TT Unit:=(.assert (.bi .le (.int .i64 0) (.bi (.add .i64) (.bi (.mul .i64) (.var 3) (.var 1)) (.var 4))) (.assert (.bi .lt (.bi (.add .i64) (.bi (.mul .i64) (.var 3) (.var 1)) (.var 4)) (.un .len (.var 2))) (.yield .ret [(.bi .get (.var 2) (.bi (.add .i64) (.bi (.mul .i64) (.var 3) (.var 1)) (.var 4)))])))
def sp177:Spec:=⟨[(false,[.sc (.i .i64)]),(false,[.sc (.i .i64)])],[(true,[.sc (.i .i64),.sc (.i .i64),.own (.sc (.i .u64))])]⟩
def tr177:TT Unit:=(.assert (.bi .le (.int .i64 0) (.bi (.mul .i64) (.var 0) (.var 1))) (.assert (.bi .le (.bi (.mul .i64) (.var 0) (.var 1)) (.bi (.mul .i64) (.var 0) (.var 1))) (.assert (.bi .le (.bi (.mul .i64) (.var 0) (.var 1)) (.int .i64 17592186044416)) (.yield .ret [(.var 0),(.var 1),(.bi .rep (.bi (.mul .i64) (.var 0) (.var 1)) (.int .u64 0))]))))
def sp181:Spec:=⟨[(true,[.sc (.i .i64),.sc (.i .i64),.ro (.sc (.i .u64))])],[(false,[.sc (.i .i64)])]⟩
def lo181_2:TT Unit:=(.ite (.bi .lt (.var 5) (.var 1)) (.call (.bool true) 166 [(.var 0),(.var 1),(.var 2),(.var 3),(.var 5)] 1 (.call (.bool true) 128 [(.var 7)] 3 (.call (.bool true) 106 [(.var 8),(.var 9),(.var 10),(.int .i64 (-1074))] 2 (.assert (.bi .le (.un .len (.bi .app (.var 6) (.bi .cons (.un .toA (.bi .cons (.var 11) (.bi .cons (.var 12) .nil))) .nil))) (.int .i64 4398046511104)) (.yield .cont [(.bi (.add .i64) (.var 5) (.int .i64 1)),(.bi .app (.var 6) (.bi .cons (.un .toA (.bi .cons (.var 11) (.bi .cons (.var 12) .nil))) .nil))]))))) (.yield (.ext 2) [(.var 6)]))
def lo181_1:TT Unit:=(.ite (.bi .lt (.var 3) (.var 0)) (.loop [(.int .i64 0),.nil] lo181_2 (.cons (.ext 2) (.assert (.bi .le (.un .len (.bi .app (.var 4) (.bi .cons (.var 5) .nil))) (.int .i64 5864062014805)) (.yield .cont [(.bi (.add .i64) (.var 3) (.int .i64 1)),(.bi .app (.var 4) (.bi .cons (.var 5) .nil))])) .nil)) (.yield (.ext 0) [(.var 4)]))
def tr181:TT Unit:=(.loop [(.int .i64 0),.nil] lo181_1 (.cons (.ext 0) (.call (.bool true) 115 [(.var 3)] 1 (.yield .ret [(.var 4)])) .nil))
def sp238:Spec:=⟨[(true,[.sc (.i .i64),.sc (.i .i64),.ro (.sc (.i .u64))]),(false,[.sc (.i .i64)]),(false,[.sc (.i .i64)]),(false,[.ro (.sc (.i .u64))]),(false,[.sc (.i .u64)])],[(true,[.sc (.i .i64),.sc (.i .i64),.own (.sc (.i .u64))]),(false,[.sc (.i .i64)])]⟩
def lo238_2:TT Unit:=(.ite (.bi .lt (.var 14) (.un .len (.bi .take (.var 10) (.un .len (.var 5))))) (.assert (.bi .le (.int .i64 0) (.var 14)) (.assert (.bi .lt (.var 14) (.un .len (.bi .take (.var 10) (.un .len (.var 5))))) (.assert (.bi .le (.int .i64 0) (.var 14)) (.assert (.bi .lt (.var 14) (.un .len (.var 5))) (.call (.bool true) 313 [(.var 13),(.bi .get (.var 5) (.var 14))] 1 (.call (.bool true) 317 [(.bi .get (.bi .take (.var 10) (.un .len (.var 5))) (.var 14)),(.var 16)] 1 (.assert (.bi .le (.int .i64 0) (.bi (.add .i64) (.bi (.mul .i64) (.bi (.add .i64) (.var 3) (.var 14)) (.var 1)) (.var 8))) (.assert (.bi .lt (.bi (.add .i64) (.bi (.mul .i64) (.bi (.add .i64) (.var 3) (.var 14)) (.var 1)) (.var 8)) (.un .len (.var 15))) (.yield .cont [(.bi (.add .i64) (.var 14) (.int .i64 1)),(.tri .set (.var 15) (.bi (.add .i64) (.bi (.mul .i64) (.bi (.add .i64) (.var 3) (.var 14)) (.var 1)) (.var 8)) (.var 17))]))))))))) (.yield (.ext 2) [(.var 15)]))
def lo238_1:TT Unit:=(.ite (.bi .lt (.var 8) (.var 1)) (.call (.bool true) 247 [(.var 0),(.var 1),(.var 2),(.var 8),(.var 3)] 1 (.assert (.bi .le (.int .i64 0) (.un .len (.var 5))) (.assert (.bi .le (.un .len (.var 5)) (.un .len (.var 5))) (.assert (.bi .le (.un .len (.var 5)) (.un .len (.var 10))) (.call (.bool true) 311 [(.var 5),(.bi .take (.var 10) (.un .len (.var 5)))] 2 (.call (.bool true) 313 [(.var 6),(.var 11)] 1 (.loop [(.int .i64 0),(.var 9)] lo238_2 (.cons (.ext 2) (.yield .cont [(.bi (.add .i64) (.var 8) (.int .i64 1)),(.var 14)]) .nil)))))))) (.yield (.ext 0) [(.var 9)]))
def tr238:TT Unit:=(.call (.bool true) 246 [(.var 0),(.var 1),(.var 2)] 1 (.ite (.bi .ne (.var 7) (.int .i64 0)) (.yield .ret [(.int .i64 0),(.int .i64 0),.nil,(.var 7)]) (.ite (.tri .ite (.tri .ite (.tri .ite (.tri .ite (.bi .lt (.var 3) (.int .i64 0)) (.bool true) (.bi .gt (.un .len (.var 5)) (.var 0))) (.bool true) (.bi .gt (.var 3) (.bi (.sub .i64) (.var 0) (.un .len (.var 5))))) (.bool true) (.bi .lt (.var 4) (.int .i64 0))) (.bool true) (.bi .gt (.var 4) (.var 1))) (.yield .ret [(.int .i64 0),(.int .i64 0),.nil,(.int .i64 3)]) (.assert (.bi .le (.un .len (.var 2)) (.int .i64 17592186044416)) (.loop [(.var 4),(.var 2)] lo238_1 (.cons (.ext 0) (.yield .ret [(.var 0),(.var 1),(.var 8),(.int .i64 0)]) .nil))))))
def sp239:Spec:=⟨[(false,[.ro (.sc (.i .u64))])],[(false,[.own (.sc (.i .u64))]),(false,[.sc (.i .u64)]),(false,[.sc (.i .u64)]),(false,[.sc (.i .i64)])]⟩
def tr239:TT Unit:=(.ite (.tri .ite (.bi .eq (.un .len (.var 0)) (.int .i64 0)) (.bool true) (.bi .gt (.un .len (.var 0)) (.int .i64 64))) (.yield .ret [.nil,(.int .u64 0),(.int .u64 0),(.int .i64 3)]) (.call (.bool true) 312 [(.var 0)] 1 (.ite (.un .not (.var 1)) (.yield .ret [.nil,(.int .u64 0),(.int .u64 0),(.int .i64 4)]) (.assert (.bi .le (.int .i64 0) (.int .i64 1)) (.assert (.bi .le (.int .i64 1) (.un .len (.var 0))) (.call (.bool true) 243 [(.bi .drop (.var 0) (.int .i64 1))] 1 (.ite (.var 2) (.call (.bool true) 244 [(.un .len (.var 0)),(.un (.mkfn 240) .nil)] 1 (.assert (.bi .le (.int .i64 0) (.int .i64 0)) (.assert (.bi .lt (.int .i64 0) (.un .len (.var 0))) (.yield .ret [(.var 3),(.int .u64 0),(.bi .get (.var 0) (.int .i64 0)),(.int .i64 0)])))) (.call (.bool true) 309 [(.var 0)] 1 (.call (.bool true) 5 [(.var 3)] 1 (.call (.bool true) 245 [(.var 0),(.un (.neg .i64) (.var 4))] 1 (.call (.bool true) 314 [(.var 5)] 2 (.scope (.call (.bool true) 242 [(.var 0)] 1 (.call (.bool true) 286 [(.var 8)] 1 (.ite (.un .not (.var 9)) (.call (.bool true) 282 [(.var 6)] 1 (.yield .norm [(.var 10)])) (.yield .norm [(.var 6)])))) (.cons .norm (.call (.bool true) 315 [(.var 8),(.var 4)] 1 (.call (.bool true) 280 [(.var 9)] 1 (.ite (.un .not (.var 10)) (.yield .ret [.nil,(.int .u64 0),(.int .u64 0),(.int .i64 2)]) (.assert (.bi .le (.int .i64 0) (.int .i64 0)) (.assert (.bi .lt (.int .i64 0) (.un .len (.var 5))) (.call (.bool true) 317 [(.bi .get (.var 5) (.int .i64 0)),(.var 8)] 1 (.call (.bool true) 244 [(.un .len (.var 5)),(.un (.mkfn 241) (.bi .cons (.un .toA (.bi .cons (.var 5) .nil)) (.bi .cons (.un .toA (.bi .cons (.var 11) .nil)) .nil)))] 1 (.assert (.bi .le (.int .i64 0) (.int .i64 0)) (.assert (.bi .lt (.int .i64 0) (.un .len (.var 5))) (.call (.bool true) 317 [(.var 8),(.bi .get (.var 5) (.int .i64 0))] 1 (.call (.bool true) 310 [(.var 13),(.var 8)] 1 (.yield .ret [(.var 12),(.var 14),(.var 9),(.int .i64 0)])))))))))))) .nil)))))))))))))
def sp240:Spec:=⟨[(false,[.sc (.i .i64)])],[(false,[.sc (.i .u64)])]⟩
def tr240:TT Unit:=(.yield .ret [(.int .u64 0)])
def sp241:Spec:=⟨[(false,[.sc (.i .i64)]),(false,[.rbx [(.sl (.sc (.i .u64)))]]),(false,[.rbx [(.sc (.i .u64))]])],[(false,[.sc (.i .u64)])]⟩
def tr241:TT Unit:=(.assert (.bi .le (.int .i64 0) (.var 0)) (.assert (.bi .lt (.var 0) (.un .len (.un (.fld 0) (.var 1)))) (.call (.bool true) 310 [(.bi .get (.un (.fld 0) (.var 1)) (.var 0)),(.un (.fld 0) (.var 2))] 1 (.yield .ret [(.var 3)]))))
def sp242:Spec:=⟨[(false,[.ro (.sc (.i .u64))])],[(false,[.sc (.i .u64)])]⟩
def lo242_1:TT Unit:=(.ite (.bi .lt (.var 2) (.un .len (.var 0))) (.assert (.bi .le (.int .i64 0) (.var 2)) (.assert (.bi .lt (.var 2) (.un .len (.var 0))) (.call (.bool true) 281 [(.bi .get (.var 0) (.var 2))] 1 (.ite (.bi .ne (.var 3) (.int .i64 0)) (.yield .ret [(.bi .get (.var 0) (.var 2))]) (.yield .cont [(.var 1),(.bi (.add .i64) (.var 2) (.int .i64 1))]))))) (.yield (.ext 0) [(.var 1)]))
def tr242:TT Unit:=(.loop [(.int .u64 0),(.int .i64 0)] lo242_1 (.cons .ret (.yield .ret [(.var 1)]) (.cons (.ext 0) (.yield .ret [(.int .u64 0)]) .nil)))
def sp243:Spec:=⟨[(false,[.ro (.sc (.i .u64))])],[(false,[.sc .b])]⟩
def lo243_1:TT Unit:=(.ite (.bi .lt (.var 2) (.un .len (.var 0))) (.assert (.bi .le (.int .i64 0) (.var 2)) (.assert (.bi .lt (.var 2) (.un .len (.var 0))) (.call (.bool true) 281 [(.bi .get (.var 0) (.var 2))] 1 (.ite (.bi .ne (.var 3) (.int .i64 0)) (.yield .ret []) (.yield .cont [(.var 1),(.bi (.add .i64) (.var 2) (.int .i64 1))]))))) (.yield (.ext 0) [(.var 1)]))
def tr243:TT Unit:=(.loop [(.bool false),(.int .i64 0)] lo243_1 (.cons .ret (.yield .ret [(.bool false)]) (.cons (.ext 0) (.yield .ret [(.bool true)]) .nil)))
def sp244:Spec:=⟨[(false,[.sc (.i .i64)]),(false,[.fnv [(.i .i64)] [(.i .u64)]])],[(false,[.own (.sc (.i .u64))])]⟩
def lo244_1:TT Unit:=(.ite (.bi .lt (.var 2) (.var 0)) (.callv (.var 1) [(.var 2)] 1 (.assert (.bi .le (.un .len (.bi .app (.var 3) (.bi .cons (.var 4) .nil))) (.int .i64 17592186044416)) (.yield .cont [(.bi (.add .i64) (.var 2) (.int .i64 1)),(.bi .app (.var 3) (.bi .cons (.var 4) .nil))]))) (.yield (.ext 0) [(.var 3)]))
def tr244:TT Unit:=(.loop [(.int .i64 1),(.bi .cons (.int .u64 4607182418800017408) .nil)] lo244_1 (.cons (.ext 0) (.assert (.bi .le (.int .i64 0) (.var 0)) (.assert (.bi .le (.var 0) (.var 0)) (.assert (.bi .le (.var 0) (.un .len (.var 2))) (.yield .ret [(.bi .take (.bi .drop (.var 2) (.int .i64 0)) (.var 0))])))) .nil))
def sp245:Spec:=⟨[(false,[.ro (.sc (.i .u64))]),(false,[.sc (.i .i64)])],[(false,[.ro (.sc (.i .u64))])]⟩
def lo245_1:TT Unit:=(.ite (.bi .lt (.var 2) (.un .len (.var 0))) (.assert (.bi .le (.int .i64 0) (.var 2)) (.assert (.bi .lt (.var 2) (.un .len (.var 0))) (.call (.bool true) 315 [(.bi .get (.var 0) (.var 2)),(.var 1)] 1 (.assert (.bi .le (.un .len (.bi .app (.var 3) (.bi .cons (.var 4) .nil))) (.int .i64 17592186044416)) (.yield .cont [(.bi (.add .i64) (.var 2) (.int .i64 1)),(.bi .app (.var 3) (.bi .cons (.var 4) .nil))]))))) (.yield (.ext 0) [(.var 3)]))
def tr245:TT Unit:=(.loop [(.int .i64 0),.nil] lo245_1 (.cons (.ext 0) (.yield .ret [(.var 2)]) .nil))
def sp246:Spec:=⟨[(true,[.sc (.i .i64),.sc (.i .i64),.ro (.sc (.i .u64))])],[(false,[.sc (.i .i64)])]⟩
def tr246:TT Unit:=(.call (.bool true) 259 [(.var 0)] 1 (.call (.un .not (.un .not (.var 3))) 259 [(.var 1)] 1 (.ite (.tri .ite (.tri .ite (.un .not (.var 3)) (.bool true) (.un .not (.var 4))) (.bool true) (.bi .ne (.un .len (.var 2)) (.bi (.mul .i64) (.var 0) (.var 1)))) (.yield .ret [(.int .i64 1)]) (.yield .ret [(.int .i64 0)]))))
def sp247:Spec:=⟨[(true,[.sc (.i .i64),.sc (.i .i64),.ro (.sc (.i .u64))]),(false,[.sc (.i .i64)]),(false,[.sc (.i .i64)])],[(false,[.ro (.sc (.i .u64))])]⟩
def lo247_1:TT Unit:=(.ite (.bi .lt (.var 5) (.var 0)) (.call (.bool true) 257 [(.var 0),(.var 1),(.var 2),(.var 5),(.var 3)] 1 (.assert (.bi .le (.un .len (.bi .app (.var 6) (.bi .cons (.var 7) .nil))) (.int .i64 17592186044416)) (.yield .cont [(.bi (.add .i64) (.var 5) (.int .i64 1)),(.bi .app (.var 6) (.bi .cons (.var 7) .nil))]))) (.yield (.ext 0) [(.var 6)]))
def tr247:TT Unit:=(.loop [(.var 4),.nil] lo247_1 (.cons (.ext 0) (.yield .ret [(.var 5)]) .nil))
def sp248:Spec:=⟨[(false,[.sc (.i .i64)])],[(true,[.sc (.i .i64),.sc (.i .i64),.own (.sc (.i .u64))]),(false,[.sc (.i .i64)])]⟩
def tr248:TT Unit:=(.call (.bool true) 259 [(.var 0)] 1 (.ite (.un .not (.var 1)) (.yield .ret [(.int .i64 0),(.int .i64 0),.nil,(.int .i64 3)]) (.call (.bool true) 258 [(.var 0),(.var 0),(.un (.mkfn 249) .nil)] 3 (.yield .ret [(.var 2),(.var 3),(.var 4),(.int .i64 0)]))))
def sp249:Spec:=⟨[(false,[.sc (.i .i64)]),(false,[.sc (.i .i64)])],[(false,[.sc (.i .u64)])]⟩
def tr249:TT Unit:=(.ite (.bi .eq (.var 0) (.var 1)) (.yield .ret [(.int .u64 4607182418800017408)]) (.yield .ret [(.int .u64 0)]))
def sp257:Spec:=⟨[(true,[.sc (.i .i64),.sc (.i .i64),.ro (.sc (.i .u64))]),(false,[.sc (.i .i64)]),(false,[.sc (.i .i64)])],[(false,[.sc (.i .u64)])]⟩
def tr257:TT Unit:=(.assert (.bi .le (.int .i64 0) (.bi (.add .i64) (.bi (.mul .i64) (.var 3) (.var 1)) (.var 4))) (.assert (.bi .lt (.bi (.add .i64) (.bi (.mul .i64) (.var 3) (.var 1)) (.var 4)) (.un .len (.var 2))) (.yield .ret [(.bi .get (.var 2) (.bi (.add .i64) (.bi (.mul .i64) (.var 3) (.var 1)) (.var 4)))])))
def sp258:Spec:=⟨[(false,[.sc (.i .i64)]),(false,[.sc (.i .i64)]),(false,[.fnv [(.i .i64),(.i .i64)] [(.i .u64)]])],[(true,[.sc (.i .i64),.sc (.i .i64),.own (.sc (.i .u64))])]⟩
def lo258_2:TT Unit:=(.ite (.bi .lt (.var 5) (.var 1)) (.callv (.var 2) [(.var 3),(.var 5)] 1 (.assert (.bi .le (.un .len (.bi .app (.var 6) (.bi .cons (.var 7) .nil))) (.int .i64 17592186044416)) (.yield .cont [(.bi (.add .i64) (.var 5) (.int .i64 1)),(.bi .app (.var 6) (.bi .cons (.var 7) .nil))]))) (.yield (.ext 2) [(.var 6)]))
def lo258_1:TT Unit:=(.ite (.bi .lt (.var 3) (.var 0)) (.loop [(.int .i64 0),(.var 4)] lo258_2 (.cons (.ext 2) (.yield .cont [(.bi (.add .i64) (.var 3) (.int .i64 1)),(.var 5)]) .nil)) (.yield (.ext 0) [(.var 4)]))
def tr258:TT Unit:=(.loop [(.int .i64 0),.nil] lo258_1 (.cons (.ext 0) (.yield .ret [(.var 0),(.var 1),(.var 3)]) .nil))
def sp259:Spec:=⟨[(false,[.sc (.i .i64)])],[(false,[.sc .b])]⟩
def tr259:TT Unit:=(.yield .ret [(.tri .ite (.bi .ge (.var 0) (.int .i64 0)) (.bi .le (.var 0) (.int .i64 6)) (.bool false))])
def sp262:Spec:=⟨[(true,[.sc (.i .i64),.sc (.i .i64),.ro (.sc (.i .u64))])],[(true,[.sc (.i .i64),.sc (.i .i64),.own (.sc (.i .u64))]),(true,[.sc (.i .i64),.sc (.i .i64),.own (.sc (.i .u64))]),(false,[.own (.sc (.i .i64))]),(false,[.sc (.i .i64)])]⟩
def lo262_1:TT Unit:=(.ite (.bi .lt (.var 4) (.var 1)) (.assert (.bi .le (.un .len (.bi .app (.var 5) (.bi .cons (.var 4) .nil))) (.int .i64 17592186044416)) (.yield .cont [(.bi (.add .i64) (.var 4) (.int .i64 1)),(.bi .app (.var 5) (.bi .cons (.var 4) .nil))])) (.yield (.ext 0) [(.var 5)]))
def lo262_2:TT Unit:=(.ite (.tri .ite (.bi .lt (.var 6) (.var 1)) (.bi .lt (.var 6) (.var 0)) (.bool false)) (.call (.bool true) 264 [(.var 9),(.var 10),(.var 11),(.var 6)] 2 (.ite (.un .not (.var 13)) (.yield .ret [(.var 7)]) (.call (.bool true) 267 [(.var 9),(.var 10),(.var 11),(.var 6),(.var 12)] 3 (.assert (.bi .le (.int .i64 0) (.var 12)) (.assert (.bi .lt (.var 12) (.un .len (.var 8))) (.assert (.bi .le (.int .i64 0) (.var 6)) (.assert (.bi .lt (.var 6) (.un .len (.var 8))) (.assert (.bi .le (.int .i64 0) (.var 6)) (.assert (.bi .lt (.var 6) (.un .len (.var 8))) (.assert (.bi .le (.int .i64 0) (.var 12)) (.assert (.bi .lt (.var 12) (.un .len (.tri .set (.var 8) (.var 6) (.bi .get (.var 8) (.var 12))))) (.ite (.bi .eq (.var 6) (.bi (.sub .i64) (.var 0) (.int .i64 1))) (.yield (.ext 2) [(.var 5),(.var 7),(.tri .set (.tri .set (.var 8) (.var 6) (.bi .get (.var 8) (.var 12))) (.var 12) (.bi .get (.var 8) (.var 6))),(.var 14),(.var 15),(.var 16)]) (.call (.bool true) 266 [(.var 14),(.var 15),(.var 16),(.var 6)] 6 (.ite (.un .not (.var 22)) (.yield .ret [(.var 7)]) (.assert (.bi .le (.un .len (.bi .app (.var 7) (.bi .cons (.un .toA (.bi .cons (.var 20) (.bi .cons (.var 21) .nil))) .nil))) (.int .i64 4398046511104)) (.yield .cont [(.var 5),(.bi (.add .i64) (.var 6) (.int .i64 1)),(.bi .app (.var 7) (.bi .cons (.un .toA (.bi .cons (.var 20) (.bi .cons (.var 21) .nil))) .nil)),(.tri .set (.tri .set (.var 8) (.var 6) (.bi .get (.var 8) (.var 12))) (.var 12) (.bi .get (.var 8) (.var 6))),(.var 17),(.var 18),(.var 19)])))))))))))))))) (.yield (.ext 2) [(.var 5),(.var 7),(.var 8),(.var 9),(.var 10),(.var 11)]))
def lo262_3:TT Unit:=(.ite (.bi .ge (.var 15) (.int .i64 0)) (.assert (.bi .le (.int .i64 0) (.var 15)) (.assert (.bi .lt (.var 15) (.un .len (.var 6))) (.assert (.bi .le (.int .i64 0) (.var 15)) (.assert (.bi .lt (.var 15) (.un .len (.var 6))) (.call (.bool true) 238 [(.var 16),(.var 17),(.var 18),(.var 15),(.int .i64 0),(.un (.fld 0) (.bi .get (.var 6) (.var 15))),(.un (.fld 1) (.bi .get (.var 6) (.var 15)))] 4 (.yield .cont [(.bi (.sub .i64) (.var 15) (.int .i64 1)),(.var 19),(.var 20),(.var 21)])))))) (.yield (.ext 4) [(.var 16),(.var 17),(.var 18)]))
def tr262:TT Unit:=(.call (.bool true) 2 [(.var 0),(.var 1),(.var 2)] 1 (.ite (.bi .ne (.var 3) (.int .i64 0)) (.yield .ret [(.int .i64 0),(.int .i64 0),.nil,(.int .i64 0),(.int .i64 0),.nil,.nil,(.var 3)]) (.loop [(.int .i64 0),.nil] lo262_1 (.cons (.ext 0) (.assert (.bi .le (.un .len (.var 2)) (.int .i64 17592186044416)) (.loop [(.var 3),(.int .i64 0),.nil,(.var 4),(.var 0),(.var 1),(.var 2)] lo262_2 (.cons .ret (.yield .ret [(.int .i64 0),(.int .i64 0),.nil,(.int .i64 0),(.int .i64 0),.nil,.nil,(.int .i64 2)]) (.cons (.ext 2) (.call (.bool true) 248 [(.var 0)] 4 (.loop [(.bi (.sub .i64) (.un .len (.var 6)) (.int .i64 1)),(.var 11),(.var 12),(.var 13)] lo262_3 (.cons (.ext 4) (.call (.bool true) 312 [(.var 17)] 1 (.call (.un .not (.un .not (.var 18))) 312 [(.var 10)] 1 (.ite (.tri .ite (.un .not (.var 18)) (.bool true) (.un .not (.var 19))) (.yield .ret [(.int .i64 0),(.int .i64 0),.nil,(.int .i64 0),(.int .i64 0),.nil,.nil,(.int .i64 2)]) (.yield .ret [(.var 15),(.var 16),(.var 17),(.var 8),(.var 9),(.var 10),(.var 7),(.int .i64 0)])))) .nil))) .nil)))) .nil))))
def sp263:Spec:=⟨[(true,[.sc (.i .i64),.sc (.i .i64),.ro (.sc (.i .u64))])],[(false,[.sc (.i .i64)]),(false,[.sc (.i .i64)])]⟩
def lo263_1:TT Unit:=(.ite (.tri .ite (.bi .lt (.var 5) (.var 0)) (.bi .lt (.var 5) (.var 1)) (.bool false)) (.assert (.bi .le (.int .i64 0) (.int .i64 0)) (.assert (.bi .lt (.int .i64 0) (.un .len (.var 2))) (.call (.bool true) 3 [(.bi .get (.var 2) (.int .i64 0))] 1 (.call (.bool true) 315 [(.var 6),(.int .i64 (-40))] 1 (.assert (.bi .le (.int .i64 0) (.bi (.add .i64) (.bi (.mul .i64) (.var 5) (.var 1)) (.var 5))) (.assert (.bi .lt (.bi (.add .i64) (.bi (.mul .i64) (.var 5) (.var 1)) (.var 5)) (.un .len (.var 2))) (.call (.bool true) 3 [(.bi .get (.var 2) (.bi (.add .i64) (.bi (.mul .i64) (.var 5) (.var 1)) (.var 5)))] 1 (.call (.bool true) 7 [(.var 7),(.var 8)] 1 (.ite (.un .not (.var 9)) (.yield (.ext 0) [(.var 4)]) (.yield .cont [(.bi (.add .i64) (.var 4) (.int .i64 1)),(.bi (.add .i64) (.var 5) (.int .i64 1))])))))))))) (.yield (.ext 0) [(.var 4)]))
def tr263:TT Unit:=(.call (.bool true) 2 [(.var 0),(.var 1),(.var 2)] 1 (.ite (.bi .ne (.var 3) (.int .i64 0)) (.yield .ret [(.int .i64 0),(.var 3)]) (.loop [(.int .i64 0),(.int .i64 0)] lo263_1 (.cons (.ext 0) (.yield .ret [(.var 4),(.int .i64 0)]) .nil))))
def sp264:Spec:=⟨[(true,[.sc (.i .i64),.sc (.i .i64),.ro (.sc (.i .u64))]),(false,[.sc (.i .i64)])],[(false,[.sc (.i .i64)]),(false,[.sc .b])]⟩
def lo264_1:TT Unit:=(.ite (.bi .lt (.var 4) (.var 1)) (.call (.bool true) 265 [(.var 4),(.un .toA (.bi .cons (.var 0) (.bi .cons (.var 1) (.bi .cons (.var 2) .nil)))),(.un .toA (.bi .cons (.var 3) .nil)),(.un .toA (.bi .cons (.var 6) .nil)),(.un .toA (.bi .cons (.var 5) .nil)),(.un .toA (.bi .cons (.var 7) .nil))] 3 (.yield .cont [(.bi (.add .i64) (.var 4) (.int .i64 1)),(.un (.fld 0) (.var 9)),(.un (.fld 0) (.var 8)),(.un (.fld 0) (.var 10))])) (.yield (.ext 0) [(.var 6),(.var 7)]))
def tr264:TT Unit:=(.loop [(.var 3),(.int .u64 0),(.bool true),(.var 3)] lo264_1 (.cons (.ext 0) (.yield .ret [(.var 5),(.var 4)]) .nil))
def sp265:Spec:=⟨[(false,[.sc (.i .i64)]),(false,[.rbx [(.sc (.i .i64)),(.sc (.i .i64)),(.sl (.sc (.i .u64)))]]),(false,[.rbx [(.sc (.i .i64))]]),(false,[.bx [(.sc .b)]]),(false,[.bx [(.sc (.i .u64))]]),(false,[.bx [(.sc (.i .i64))]])],[]⟩
def tr265:TT Unit:=(.call (.bool true) 247 [(.un (.fld 0) (.var 1)),(.un (.fld 1) (.var 1)),(.un (.fld 2) (.var 1)),(.var 0),(.un (.fld 0) (.var 2))] 1 (.call (.bool true) 314 [(.var 6)] 2 (.call (.un (.fld 0) (.var 3)) 280 [(.var 7)] 1 (.call (.un .not (.bi .eq (.var 0) (.un (.fld 0) (.var 2)))) 7 [(.un (.fld 0) (.var 4)),(.var 7)] 1 (.ite (.tri .ite (.bi .eq (.var 0) (.un (.fld 0) (.var 2))) (.bool true) (.var 10)) (.yield .ret [(.un .toA (.bi .cons (.tri .ite (.un (.fld 0) (.var 3)) (.var 9) (.bool false)) .nil)),(.un .toA (.bi .cons (.var 7) .nil)),(.un .toA (.bi .cons (.var 0) .nil))]) (.yield .ret [(.un .toA (.bi .cons (.tri .ite (.un (.fld 0) (.var 3)) (.var 9) (.bool false)) .nil)),(.un .toA (.bi .cons (.un (.fld 0) (.var 4)) .nil)),(.un .toA (.bi .cons (.un (.fld 0) (.var 5)) .nil))]))))))
def sp266:Spec:=⟨[(true,[.sc (.i .i64),.sc (.i .i64),.ro (.sc (.i .u64))]),(false,[.sc (.i .i64)])],[(true,[.sc (.i .i64),.sc (.i .i64),.own (.sc (.i .u64))]),(true,[.ro (.sc (.i .u64)),.sc (.i .u64)]),(false,[.sc .b])]⟩
def lo266_1:TT Unit:=(.ite (.bi .lt (.var 13) (.var 0)) (.assert (.bi .le (.int .i64 0) (.bi (.add .i64) (.bi (.mul .i64) (.var 13) (.var 1)) (.var 3))) (.assert (.bi .lt (.bi (.add .i64) (.bi (.mul .i64) (.var 13) (.var 1)) (.var 3)) (.un .len (.var 14))) (.yield .cont [(.bi (.add .i64) (.var 13) (.int .i64 1)),(.tri .set (.var 14) (.bi (.add .i64) (.bi (.mul .i64) (.var 13) (.var 1)) (.var 3)) (.int .u64 0))]))) (.yield (.ext 0) [(.var 14)]))
def tr266:TT Unit:=(.call (.bool true) 247 [(.var 0),(.var 1),(.var 2),(.var 3),(.var 3)] 1 (.call (.bool true) 239 [(.var 4)] 4 (.ite (.bi .ne (.var 8) (.int .i64 0)) (.yield .ret [(.int .i64 0),(.int .i64 0),.nil,.nil,(.int .u64 0),(.bool false)]) (.call (.bool true) 238 [(.var 0),(.var 1),(.var 2),(.var 3),(.var 3),(.var 5),(.var 6)] 4 (.ite (.bi .ne (.var 12) (.int .i64 0)) (.yield .ret [(.int .i64 0),(.int .i64 0),.nil,.nil,(.int .u64 0),(.bool false)]) (.assert (.bi .le (.int .i64 0) (.bi (.add .i64) (.bi (.mul .i64) (.var 3) (.var 1)) (.var 3))) (.assert (.bi .lt (.bi (.add .i64) (.bi (.mul .i64) (.var 3) (.var 1)) (.var 3)) (.un .len (.var 11))) (.loop [(.bi (.add .i64) (.var 3) (.int .i64 1)),(.tri .set (.var 11) (.bi (.add .i64) (.bi (.mul .i64) (.var 3) (.var 1)) (.var 3)) (.var 7))] lo266_1 (.cons (.ext 0) (.yield .ret [(.var 9),(.var 10),(.var 13),(.var 5),(.var 6),(.bool true)]) .nil)))))))))
def sp267:Spec:=⟨[(true,[.sc (.i .i64),.sc (.i .i64),.ro (.sc (.i .u64))]),(false,[.sc (.i .i64)]),(false,[.sc (.i .i64)])],[(true,[.sc (.i .i64),.sc (.i .i64),.own (.sc (.i .u64))])]⟩
def lo267_1:TT Unit:=(.ite (.bi .lt (.var 5) (.var 0)) (.assert (.bi .le (.int .i64 0) (.bi (.mul .i64) (.var 5) (.var 1))) (.assert (.bi .le (.bi (.mul .i64) (.var 5) (.var 1)) (.bi (.mul .i64) (.bi (.add .i64) (.var 5) (.int .i64 1)) (.var 1))) (.assert (.bi .le (.int .i64 0) (.bi (.mul .i64) (.bi (.add .i64) (.var 5) (.int .i64 1)) (.var 1))) (.assert (.bi .le (.bi (.mul .i64) (.bi (.add .i64) (.var 5) (.int .i64 1)) (.var 1)) (.un .len (.var 6))) (.assert (.bi .le (.int .i64 0) (.var 4)) (.assert (.bi .lt (.var 4) (.un .len (.bi .take (.bi .drop (.var 6) (.bi (.mul .i64) (.var 5) (.var 1))) (.bi .isub (.bi (.mul .i64) (.bi (.add .i64) (.var 5) (.int .i64 1)) (.var 1)) (.bi (.mul .i64) (.var 5) (.var 1)))))) (.assert (.bi .le (.int .i64 0) (.var 3)) (.assert (.bi .lt (.var 3) (.un .len (.bi .take (.bi .drop (.var 6) (.bi (.mul .i64) (.var 5) (.var 1))) (.bi .isub (.bi (.mul .i64) (.bi (.add .i64) (.var 5) (.int .i64 1)) (.var 1)) (.bi (.mul .i64) (.var 5) (.var 1)))))) (.assert (.bi .le (.int .i64 0) (.var 3)) (.assert (.bi .lt (.var 3) (.un .len (.bi .take (.bi .drop (.var 6) (.bi (.mul .i64) (.var 5) (.var 1))) (.bi .isub (.bi (.mul .i64) (.bi (.add .i64) (.var 5) (.int .i64 1)) (.var 1)) (.bi (.mul .i64) (.var 5) (.var 1)))))) (.assert (.bi .le (.int .i64 0) (.var 4)) (.assert (.bi .lt (.var 4) (.un .len (.bi .take (.bi .drop (.tri .set (.var 6) (.bi .iadd (.bi (.mul .i64) (.var 5) (.var 1)) (.var 3)) (.bi .get (.var 6) (.bi .iadd (.bi (.mul .i64) (.var 5) (.var 1)) (.var 4)))) (.bi (.mul .i64) (.var 5) (.var 1))) (.bi .isub (.bi (.mul .i64) (.bi (.add .i64) (.var 5) (.int .i64 1)) (.var 1)) (.bi (.mul .i64) (.var 5) (.var 1)))))) (.yield .cont [(.bi (.add .i64) (.var 5) (.int .i64 1)),(.tri .set (.tri .set (.var 6) (.bi .iadd (.bi (.mul .i64) (.var 5) (.var 1)) (.var 3)) (.bi .get (.var 6) (.bi .iadd (.bi (.mul .i64) (.var 5) (.var 1)) (.var 4)))) (.bi .iadd (.bi (.mul .i64) (.var 5) (.var 1)) (.var 4)) (.bi .get (.var 6) (.bi .iadd (.bi (.mul .i64) (.var 5) (.var 1)) (.var 3))))]))))))))))))) (.yield (.ext 0) [(.var 6)]))
def tr267:TT Unit:=(.assert (.bi .le (.int .i64 0) (.un .len (.var 2))) (.assert (.bi .le (.un .len (.var 2)) (.un .len (.var 2))) (.assert (.bi .le (.un .len (.var 2)) (.int .i64 17592186044416)) (.loop [(.int .i64 0),(.bi .copy (.bi .rep (.un .len (.var 2)) (.int .u64 0)) (.var 2))] lo267_1 (.cons (.ext 0) (.yield .ret [(.var 0),(.var 1),(.var 5)]) .nil)))))
def sp272:Spec:=⟨[(false,[.sc (.i .u64)])],[(false,[.sc (.i .u64)]),(false,[.sc (.i .u8)])]⟩
def lo272_1:TT Unit:=(.ite (.bi .ge (.var 8) (.int .u64 4611686018427387904)) (.assert (.bi .ge (.int .u64 1) (.int .i64 0)) (.yield .cont [(.bi (.add .i64) (.var 7) (.int .i64 2)),(.bi (.shr .u64) (.var 8) (.int .u64 1)),(.tri .ite (.var 9) (.bool true) (.bi .eq (.bi (.and .u64) (.var 8) (.int .u64 1)) (.int .u64 1)))])) (.yield (.ext 5) [(.var 7),(.var 8),(.var 9)]))
def tr272:TT Unit:=(.scope (.call (.bool true) 281 [(.var 0)] 1 (.ite (.bi .eq (.var 1) (.int .i64 4)) (.yield .ret []) (.call (.bool true) 281 [(.var 0)] 1 (.ite (.bi .eq (.var 2) (.int .i64 0)) (.yield .norm []) (.ite (.bi .eq (.var 0) (.int .u64 9218868437227405312)) (.yield .norm []) (.call (.bool true) 286 [(.var 0)] 1 (.ite (.var 3) (.yield (.ext 4) []) (.yield (.ext 0) [])))))))) (.cons .ret (.yield .ret [(.int .u64 9221120237041090560),(.int .u8 0)]) (.cons .norm (.yield .ret [(.var 0),(.int .u8 0)]) (.cons (.ext 4) (.yield .ret [(.int .u64 9221120237041090560),(.int .u8 16)]) (.cons (.ext 0) (.call (.bool true) 285 [(.var 0)] 2 (.call (.bool true) 331 [(.var 1)] 1 (.scope (.assert (.bi .ne (.int .i64 2) (.int .i64 0)) (.ite (.bi .ne (.bi (.rem .i64) (.bi (.sub .i64) (.var 2) (.bi (.sub .i64) (.var 3) (.int .i64 2))) (.int .i64 2)) (.int .i64 0)) (.yield .norm [(.bi (.sub .i64) (.bi (.sub .i64) (.var 3) (.int .i64 2)) (.int .i64 1))]) (.yield .norm [(.bi (.sub .i64) (.var 3) (.int .i64 2))]))) (.cons .norm (.assert (.bi .ge (.var 4) (.int .i64 0)) (.call (.bool true) 274 [(.bi (.shl .u64) (.var 1) (.var 4))] 2 (.loop [(.bi (.sub .i64) (.var 2) (.var 4)),(.var 5),(.un .not (.var 6))] lo272_1 (.cons (.ext 5) (.assert (.bi .ne (.int .i64 2) (.int .i64 0)) (.call (.bool true) 283 [(.bool false),(.var 8),(.bi (.sub .i64) (.bi (.quo .i64) (.var 7) (.int .i64 2)) (.int .i64 32)),(.var 9)] 2 (.yield .ret [(.var 10),(.var 11)]))) .nil)))) .nil)))) .nil)))))
def sp274:Spec:=⟨[(false,[.sc (.i .u64)])],[(false,[.sc (.i .u64)]),(false,[.sc .b])]⟩
def lo274_1:TT Unit:=(.ite (.bi .lt (.var 4) (.int .i64 64)) (.scope (.scope (.ite (.bi .lt (.var 4) (.int .i64 32)) (.assert (.bi .ge (.bi (.sub .i64) (.int .i64 62) (.bi (.mul .i64) (.int .i64 2) (.var 4))) (.int .i64 0)) (.yield .norm [(.bi (.and .u64) (.bi (.shr .u64) (.var 0) (.bi (.sub .i64) (.int .i64 62) (.bi (.mul .i64) (.int .i64 2) (.var 4)))) (.int .u64 3))])) (.yield .norm [(.int .u64 0)])) (.cons .norm (.assert (.bi .ge (.int .u64 2) (.int .i64 0)) (.assert (.bi .ge (.int .u64 62) (.int .i64 0)) (.assert (.bi .ge (.int .u64 2) (.int .i64 0)) (.assert (.bi .ge (.int .u64 62) (.int .i64 0)) (.assert (.bi .ge (.int .u64 2) (.int .i64 0)) (.assert (.bi .ge (.int .u64 1) (.int .i64 0)) (.assert (.bi .le (.int .u64 0) (.int .u64 1)) (.assert (.bi .le (.tri .sborrow (.bi (.or .u64) (.bi (.shl .u64) (.var 3) (.int .u64 2)) (.var 5)) (.bi (.or .u64) (.bi (.shl .u64) (.var 1) (.int .u64 2)) (.int .u64 1)) (.int .u64 0)) (.int .u64 1)) (.ite (.bi .eq (.tri .sborrow (.bi (.or .u64) (.bi (.shl .u64) (.var 2) (.int .u64 2)) (.bi (.shr .u64) (.var 3) (.int .u64 62))) (.bi (.shr .u64) (.var 1) (.int .u64 62)) (.tri .sborrow (.bi (.or .u64) (.bi (.shl .u64) (.var 3) (.int .u64 2)) (.var 5)) (.bi (.or .u64) (.bi (.shl .u64) (.var 1) (.int .u64 2)) (.int .u64 1)) (.int .u64 0))) (.int .u64 0)) (.yield .norm [(.tri .ssub (.bi (.or .u64) (.bi (.shl .u64) (.var 2) (.int .u64 2)) (.bi (.shr .u64) (.var 3) (.int .u64 62))) (.bi (.shr .u64) (.var 1) (.int .u64 62)) (.tri .sborrow (.bi (.or .u64) (.bi (.shl .u64) (.var 3) (.int .u64 2)) (.var 5)) (.bi (.or .u64) (.bi (.shl .u64) (.var 1) (.int .u64 2)) (.int .u64 1)) (.int .u64 0))),(.tri .ssub (.bi (.or .u64) (.bi (.shl .u64) (.var 3) (.int .u64 2)) (.var 5)) (.bi (.or .u64) (.bi (.shl .u64) (.var 1) (.int .u64 2)) (.int .u64 1)) (.int .u64 0)),(.bi (.or .u64) (.bi (.shl .u64) (.var 1) (.int .u64 1)) (.int .u64 1))]) (.yield .norm [(.bi (.or .u64) (.bi (.shl .u64) (.var 2) (.int .u64 2)) (.bi (.shr .u64) (.var 3) (.int .u64 62))),(.bi (.or .u64) (.bi (.shl .u64) (.var 3) (.int .u64 2)) (.var 5)),(.bi (.shl .u64) (.var 1) (.int .u64 1))])))))))))) .nil)) (.cons .norm (.yield .cont [(.var 7),(.var 5),(.var 6),(.bi (.add .i64) (.var 4) (.int .i64 1))]) .nil)) (.yield (.ext 0) [(.var 1),(.var 2),(.var 3)]))
def tr274:TT Unit:=(.loop [(.int .u64 0),(.int .u64 0),(.int .u64 0),(.int .i64 0)] lo274_1 (.cons (.ext 0) (.yield .ret [(.var 1),(.tri .ite (.bi .eq (.var 2) (.int .u64 0)) (.bi .eq (.var 3) (.int .u64 0)) (.bool false))]) .nil))
def sp280:Spec:=⟨[(false,[.sc (.i .u64)])],[(false,[.sc .b])]⟩
def tr280:TT Unit:=(.call (.bool true) 281 [(.var 0)] 1 (.scope (.ite (.bi .eq (.var 1) (.int .i64 3)) (.yield .norm []) (.ite (.bi .eq (.var 1) (.int .i64 4)) (.yield .norm []) (.yield (.ext 0) []))) (.cons .norm (.yield .ret [(.bool false)]) (.cons (.ext 0) (.yield .ret [(.bool true)]) .nil))))
def sp281:Spec:=⟨[(false,[.sc (.i .u64)])],[(false,[.sc (.i .i64)])]⟩
def tr281:TT Unit:=(.call (.bool true) 287 [(.var 0)] 3 (.ite (.tri .ite (.bi .beq (.var 1) (.var 1)) (.tri .ite (.bi .eq (.var 2) (.int .i64 2047)) (.tri .ite (.bi .eq (.var 3) (.int .u64 0)) (.bool true) (.bool false)) (.bool false)) (.bool false)) (.yield .ret [(.int .i64 3)]) (.ite (.bi .eq (.var 2) (.int .i64 2047)) (.yield .ret [(.int .i64 4)]) (.ite (.bi .gt (.var 2) (.int .i64 0)) (.yield .ret [(.int .i64 2)]) (.ite (.bi .gt (.var 3) (.int .u64 0)) (.yield .ret [(.int .i64 1)]) (.yield .ret [(.int .i64 0)]))))))
def sp282:Spec:=⟨[(false,[.sc (.i .u64)])],[(false,[.sc (.i .u64)])]⟩
def tr282:TT Unit:=(.yield .ret [(.bi (.xor .u64) (.var 0) (.int .u64 9223372036854775808))])
def sp283:Spec:=⟨[(false,[.sc .b]),(false,[.sc (.i .u64)]),(false,[.sc (.i .i64)]),(false,[.sc .b])],[(false,[.sc (.i .u64)]),(false,[.sc (.i .u8)])]⟩
def lo283_1:TT Unit:=(.assert (.bi .ge (.var 4) (.int .i64 0)) (.ite (.tri .ite (.bi .ge (.bi (.shr .u64) (.var 1) (.var 4)) (.int .u64 9007199254740992)) (.bool true) (.bi .lt (.bi (.add .i64) (.var 2) (.var 4)) (.int .i64 (-1074)))) (.ite (.bi .eq (.bi (.add .i64) (.var 4) (.int .i64 1)) (.int .i64 63)) (.yield (.ext 0) [(.bi (.add .i64) (.var 4) (.int .i64 1))]) (.yield .cont [(.bi (.add .i64) (.var 4) (.int .i64 1))])) (.yield (.ext 0) [(.var 4)])))
def tr283:TT Unit:=(.ite (.tri .ite (.bi .eq (.var 1) (.int .u64 0)) (.un .not (.var 3)) (.bool false)) (.call (.bool true) 284 [(.var 0),(.int .u64 0),(.int .i64 (-1074))] 1 (.yield .ret [(.var 4),(.int .u8 0)])) (.loop [(.int .i64 0)] lo283_1 (.cons (.ext 0) (.assert (.bi .ge (.var 4) (.int .i64 0)) (.assert (.bi .ge (.var 4) (.int .i64 0)) (.scope (.ite (.bi .gt (.var 4) (.int .i64 0)) (.assert (.bi .ge (.bi (.sub .i64) (.var 4) (.int .i64 1)) (.int .i64 0)) (.yield .norm [(.bi (.shl .u64) (.int .u64 1) (.bi (.sub .i64) (.var 4) (.int .i64 1)))])) (.yield .norm [(.int .u64 0)])) (.cons .norm (.scope (.ite (.tri .ite (.bi .gt (.var 4) (.int .i64 0)) (.tri .ite (.bi .gt (.bi (.and .u64) (.var 1) (.bi (.sub .u64) (.bi (.shl .u64) (.int .u64 1) (.var 4)) (.int .u64 1))) (.var 5)) (.bool true) (.tri .ite (.bi .eq (.bi (.and .u64) (.var 1) (.bi (.sub .u64) (.bi (.shl .u64) (.int .u64 1) (.var 4)) (.int .u64 1))) (.var 5)) (.tri .ite (.var 3) (.bool true) (.bi .eq (.bi (.and .u64) (.bi (.shr .u64) (.var 1) (.var 4)) (.int .u64 1)) (.int .u64 1))) (.bool false))) (.bool false)) (.yield .norm [(.bi (.add .u64) (.bi (.shr .u64) (.var 1) (.var 4)) (.int .u64 1))]) (.yield .norm [(.bi (.shr .u64) (.var 1) (.var 4))])) (.cons .norm (.scope (.ite (.bi .lt (.bi (.add .i64) (.var 2) (.var 4)) (.int .i64 (-1074))) (.yield .norm [(.int .u64 0)]) (.yield .norm [(.var 6)])) (.cons .norm (.call (.bool true) 284 [(.var 0),(.var 7),(.bi (.max .i64) (.bi (.add .i64) (.var 2) (.var 4)) (.int .i64 (-1074)))] 1 (.scope (.ite (.tri .ite (.un .not (.tri .ite (.bi .eq (.bi (.and .u64) (.var 1) (.bi (.sub .u64) (.bi (.shl .u64) (.int .u64 1) (.var 4)) (.int .u64 1))) (.int .u64 0)) (.un .not (.var 3)) (.bool false))) (.bool true) (.bi .eq (.bi (.andNot .u64) (.var 8) (.int .u64 9223372036854775808)) (.int .u64 9218868437227405312))) (.call (.bool true) 281 [(.var 8)] 1 (.ite (.bi .eq (.var 9) (.int .i64 3)) (.yield .norm [(.bi (.or .u8) (.int .u8 1) (.int .u8 4))]) (.scope (.ite (.bi .eq (.var 9) (.int .i64 0)) (.yield .norm [(.bi .eq (.var 9) (.int .i64 0))]) (.yield .norm [(.bi .eq (.var 9) (.int .i64 1))])) (.cons .norm (.ite (.var 10) (.yield .norm [(.bi (.or .u8) (.int .u8 1) (.int .u8 2))]) (.yield .norm [(.int .u8 1)])) .nil)))) (.yield .norm [(.int .u8 0)])) (.cons .norm (.yield .ret [(.var 8),(.var 9)]) .nil))) .nil)) .nil)) .nil)))) .nil)))
def sp284:Spec:=⟨[(false,[.sc .b]),(false,[.sc (.i .u64)]),(false,[.sc (.i .i64)])],[(false,[.sc (.i .u64)])]⟩
def tr284:TT Unit:=(.scope (.ite (.bi .eq (.var 1) (.int .u64 0)) (.yield .norm [(.int .u64 0)]) (.ite (.bi .ge (.var 1) (.int .u64 9007199254740992)) (.assert (.bi .ge (.int .u64 1) (.int .i64 0)) (.call (.bool true) 284 [(.var 0),(.bi (.shr .u64) (.var 1) (.int .u64 1)),(.bi (.add .i64) (.var 2) (.int .i64 1))] 1 (.yield .ret [(.var 3)]))) (.ite (.tri .ite (.bi .lt (.var 1) (.int .u64 4503599627370496)) (.bi .gt (.var 2) (.int .i64 (-1074))) (.bool false)) (.assert (.bi .ge (.int .u64 1) (.int .i64 0)) (.call (.bool true) 284 [(.var 0),(.bi (.shl .u64) (.var 1) (.int .u64 1)),(.bi (.sub .i64) (.var 2) (.int .i64 1))] 1 (.yield .ret [(.var 3)]))) (.ite (.bi .lt (.var 1) (.int .u64 4503599627370496)) (.yield .norm [(.var 1)]) (.ite (.bi .ge (.bi (.add .i64) (.var 2) (.int .i64 1075)) (.int .i64 2047)) (.yield .norm [(.int .u64 9218868437227405312)]) (.assert (.bi .ge (.int .u64 52) (.int .i64 0)) (.yield .norm [(.bi (.or .u64) (.bi (.shl .u64) (.un (.conv .u64) (.bi (.add .i64) (.var 2) (.int .i64 1075))) (.int .u64 52)) (.bi (.and .u64) (.var 1) (.int .u64 4503599627370495)))]))))))) (.cons .norm (.scope (.ite (.var 0) (.call (.bool true) 282 [(.var 3)] 1 (.yield .norm [(.var 4)])) (.yield .norm [(.var 3)])) (.cons .norm (.yield .ret [(.var 4)]) .nil)) (.cons .ret (.yield .ret [(.var 3)]) .nil)))
def sp285:Spec:=⟨[(false,[.sc (.i .u64)])],[(false,[.sc (.i .u64)]),(false,[.sc (.i .i64)])]⟩
def tr285:TT Unit:=(.call (.bool true) 287 [(.var 0)] 3 (.ite (.bi .eq (.var 2) (.int .i64 0)) (.yield .ret [(.var 3),(.int .i64 (-1074))]) (.yield .ret [(.bi (.or .u64) (.var 3) (.int .u64 4503599627370496)),(.bi (.sub .i64) (.var 2) (.int .i64 1075))])))
def sp286:Spec:=⟨[(false,[.sc (.i .u64)])],[(false,[.sc .b])]⟩
def tr286:TT Unit:=(.assert (.bi .ge (.int .u64 63) (.int .i64 0)) (.yield .ret [(.bi .eq (.bi (.shr .u64) (.var 0) (.int .u64 63)) (.int .u64 1))]))
def sp287:Spec:=⟨[(false,[.sc (.i .u64)])],[(true,[.sc .b,.sc (.i .i64),.sc (.i .u64)])]⟩
def tr287:TT Unit:=(.assert (.bi .ge (.int .u64 63) (.int .i64 0)) (.assert (.bi .ge (.int .u64 52) (.int .i64 0)) (.yield .ret [(.bi .eq (.bi (.shr .u64) (.var 0) (.int .u64 63)) (.int .u64 1)),(.un (.conv .i64) (.bi (.and .u64) (.bi (.shr .u64) (.var 0) (.int .u64 52)) (.int .u64 2047))),(.bi (.and .u64) (.var 0) (.int .u64 4503599627370495))])))
def sp288:Spec:=⟨[(false,[.sc (.i .u64)]),(false,[.sc (.i .u64)])],[(false,[.sc (.i .u64)]),(false,[.sc (.i .u8)])]⟩
def tr288:TT Unit:=(.call (.bool true) 280 [(.var 0)] 1 (.call (.un .not (.un .not (.var 2))) 280 [(.var 1)] 1 (.ite (.tri .ite (.un .not (.var 2)) (.bool true) (.un .not (.var 3))) (.call (.bool true) 291 [(.var 0),(.var 1)] 2 (.yield .ret [(.var 4),(.var 5)])) (.call (.bool true) 285 [(.var 0)] 2 (.call (.bool true) 285 [(.var 1)] 2 (.call (.bool true) 286 [(.var 0)] 1 (.call (.bool true) 286 [(.var 1)] 1 (.scope (.ite (.bi .lt (.var 5) (.var 7)) (.yield .norm [(.var 6),(.var 7),(.var 4),(.var 5),(.var 9),(.var 8)]) (.yield .norm [(.var 4),(.var 5),(.var 6),(.var 7),(.var 8),(.var 9)])) (.cons .norm (.assert (.bi .ge (.int .u64 9) (.int .i64 0)) (.assert (.bi .ge (.int .u64 9) (.int .i64 0)) (.call (.bool true) 290 [(.bi (.shl .u64) (.var 12) (.int .u64 9)),(.bi (.sub .i64) (.var 11) (.var 13))] 1 (.ite (.bi .beq (.var 14) (.var 15)) (.call (.bool true) 283 [(.var 14),(.bi (.add .u64) (.bi (.shl .u64) (.var 10) (.int .u64 9)) (.var 16)),(.bi (.sub .i64) (.var 11) (.int .i64 9)),(.bool false)] 2 (.yield .ret [(.var 17),(.var 18)])) (.ite (.bi .gt (.bi (.shl .u64) (.var 10) (.int .u64 9)) (.var 16)) (.call (.bool true) 283 [(.var 14),(.bi (.sub .u64) (.bi (.shl .u64) (.var 10) (.int .u64 9)) (.var 16)),(.bi (.sub .i64) (.var 11) (.int .i64 9)),(.bool false)] 2 (.yield .ret [(.var 17),(.var 18)])) (.ite (.bi .lt (.bi (.shl .u64) (.var 10) (.int .u64 9)) (.var 16)) (.call (.bool true) 283 [(.var 15),(.bi (.sub .u64) (.var 16) (.bi (.shl .u64) (.var 10) (.int .u64 9))),(.bi (.sub .i64) (.var 11) (.int .i64 9)),(.bool false)] 2 (.yield .ret [(.var 17),(.var 18)])) (.yield .ret [(.int .u64 0),(.int .u8 0)]))))))) .nil)))))))))
def sp289:Spec:=⟨[(false,[.sc (.i .u64)]),(false,[.sc (.i .u64)])],[(false,[.sc (.i .u64)]),(false,[.sc (.i .u8)])]⟩
def tr289:TT Unit:=(.call (.bool true) 282 [(.var 1)] 1 (.call (.bool true) 288 [(.var 0),(.var 2)] 2 (.yield .ret [(.var 3),(.var 4)])))
def sp290:Spec:=⟨[(false,[.sc (.i .u64)]),(false,[.sc (.i .i64)])],[(false,[.sc (.i .u64)])]⟩
def tr290:TT Unit:=(.scope (.ite (.bi .gt (.var 1) (.int .i64 63)) (.yield .norm [(.int .i64 63)]) (.yield .norm [(.var 1)])) (.cons .norm (.assert (.bi .ge (.var 2) (.int .i64 0)) (.scope (.assert (.bi .ge (.var 2) (.int .i64 0)) (.ite (.bi .ne (.bi (.shl .u64) (.bi (.shr .u64) (.var 0) (.var 2)) (.var 2)) (.var 0)) (.yield .norm [(.bi (.or .u64) (.bi (.shr .u64) (.var 0) (.var 2)) (.int .u64 1))]) (.yield .norm [(.bi (.shr .u64) (.var 0) (.var 2))]))) (.cons .norm (.yield .ret [(.var 3)]) .nil))) .nil))
def sp291:Spec:=⟨[(false,[.sc (.i .u64)]),(false,[.sc (.i .u64)])],[(false,[.sc (.i .u64)]),(false,[.sc (.i .u8)])]⟩
def tr291:TT Unit:=(.scope (.call (.bool true) 281 [(.var 0)] 1 (.ite (.bi .eq (.var 2) (.int .i64 4)) (.yield .norm []) (.call (.bool true) 281 [(.var 1)] 1 (.ite (.bi .eq (.var 3) (.int .i64 4)) (.yield .norm []) (.call (.bool true) 280 [(.var 0)] 1 (.ite (.var 4) (.yield (.ext 3) []) (.call (.bool true) 280 [(.var 1)] 1 (.ite (.tri .ite (.var 5) (.bool true) (.bi .eq (.var 0) (.var 1))) (.yield (.ext 4) []) (.yield (.ext 0) []))))))))) (.cons .norm (.yield .ret [(.int .u64 9221120237041090560),(.int .u8 0)]) (.cons (.ext 3) (.yield .ret [(.var 1),(.int .u8 0)]) (.cons (.ext 4) (.yield .ret [(.var 0),(.int .u8 0)]) (.cons (.ext 0) (.yield .ret [(.int .u64 9221120237041090560),(.int .u8 16)]) .nil)))))
def sp300:Spec:=⟨[(false,[.sc (.i .u64)]),(false,[.sc (.i .u64)])],[(false,[.sc (.i .u64)]),(false,[.sc (.i .u8)])]⟩
def lo300_1:TT Unit:=(.ite (.bi .lt (.var 13) (.int .i64 61)) (.scope (.assert (.bi .ge (.int .u64 1) (.int .i64 0)) (.assert (.bi .ge (.int .u64 1) (.int .i64 0)) (.ite (.bi .ge (.bi (.shl .u64) (.var 12) (.int .u64 1)) (.var 9)) (.yield .norm [(.bi (.or .u64) (.bi (.shl .u64) (.var 11) (.int .u64 1)) (.int .u64 1)),(.bi (.sub .u64) (.bi (.shl .u64) (.var 12) (.int .u64 1)) (.var 9))]) (.yield .norm [(.bi (.shl .u64) (.var 11) (.int .u64 1)),(.bi (.shl .u64) (.var 12) (.int .u64 1))])))) (.cons .norm (.yield .cont [(.var 14),(.var 15),(.bi (.add .i64) (.var 13) (.int .i64 1))]) .nil)) (.yield (.ext 1) [(.var 11),(.var 12)]))
def tr300:TT Unit:=(.call (.bool true) 286 [(.var 0)] 1 (.call (.bool true) 286 [(.var 1)] 1 (.call (.bool true) 281 [(.var 0)] 1 (.call (.bool true) 281 [(.var 1)] 1 (.call (.bool true) 302 [(.var 0),(.var 1)] 1 (.ite (.var 6) (.yield .ret [(.int .u64 9221120237041090560),(.int .u8 0)]) (.ite (.tri .ite (.tri .ite (.bi .eq (.var 4) (.int .i64 3)) (.bi .eq (.var 5) (.int .i64 3)) (.bool false)) (.bool true) (.tri .ite (.bi .eq (.var 4) (.int .i64 0)) (.bi .eq (.var 5) (.int .i64 0)) (.bool false))) (.yield .ret [(.int .u64 9221120237041090560),(.int .u8 16)]) (.ite (.bi .eq (.var 4) (.int .i64 3)) (.call (.bool true) 304 [(.int .u64 9218868437227405312),(.bi .bne (.var 2) (.var 3))] 1 (.yield .ret [(.var 7),(.int .u8 0)])) (.ite (.tri .ite (.bi .eq (.var 5) (.int .i64 3)) (.bool true) (.bi .eq (.var 4) (.int .i64 0))) (.call (.bool true) 304 [(.int .u64 0),(.bi .bne (.var 2) (.var 3))] 1 (.yield .ret [(.var 7),(.int .u8 0)])) (.ite (.bi .eq (.var 5) (.int .i64 0)) (.call (.bool true) 304 [(.int .u64 9218868437227405312),(.bi .bne (.var 2) (.var 3))] 1 (.yield .ret [(.var 7),(.int .u8 8)])) (.call (.bool true) 303 [(.var 0)] 2 (.call (.bool true) 303 [(.var 1)] 2 (.assert (.bi .ne (.var 9) (.int .u64 0)) (.assert (.bi .ne (.var 9) (.int .u64 0)) (.loop [(.bi (.quo .u64) (.var 7) (.var 9)),(.bi (.rem .u64) (.var 7) (.var 9)),(.int .i64 0)] lo300_1 (.cons (.ext 1) (.call (.bool true) 305 [(.bi .bne (.var 2) (.var 3)),(.var 11),(.bi (.sub .i64) (.bi (.sub .i64) (.var 8) (.var 10)) (.int .i64 61)),(.bi .ne (.var 12) (.int .u64 0))] 2 (.yield .ret [(.var 13),(.var 14)])) .nil))))))))))))))))
def sp301:Spec:=⟨[(false,[.sc (.i .u64)]),(false,[.sc (.i .u64)])],[(false,[.sc (.i .u64)]),(false,[.sc (.i .u8)])]⟩
def tr301:TT Unit:=(.call (.bool true) 286 [(.var 0)] 1 (.call (.bool true) 286 [(.var 1)] 1 (.call (.bool true) 281 [(.var 0)] 1 (.call (.bool true) 281 [(.var 1)] 1 (.call (.bool true) 302 [(.var 0),(.var 1)] 1 (.ite (.var 6) (.yield .ret [(.int .u64 9221120237041090560),(.int .u8 0)]) (.ite (.tri .ite (.tri .ite (.bi .eq (.var 4) (.int .i64 3)) (.bi .eq (.var 5) (.int .i64 0)) (.bool false)) (.bool true) (.tri .ite (.bi .eq (.var 4) (.int .i64 0)) (.bi .eq (.var 5) (.int .i64 3)) (.bool false))) (.yield .ret [(.int .u64 9221120237041090560),(.int .u8 16)]) (.ite (.tri .ite (.bi .eq (.var 4) (.int .i64 3)) (.bool true) (.bi .eq (.var 5) (.int .i64 3))) (.call (.bool true) 304 [(.int .u64 9218868437227405312),(.bi .bne (.var 2) (.var 3))] 1 (.yield .ret [(.var 7),(.int .u8 0)])) (.ite (.tri .ite (.bi .eq (.var 4) (.int .i64 0)) (.bool true) (.bi .eq (.var 5) (.int .i64 0))) (.call (.bool true) 304 [(.int .u64 0),(.bi .bne (.var 2) (.var 3))] 1 (.yield .ret [(.var 7),(.int .u8 0)])) (.call (.bool true) 303 [(.var 0)] 2 (.call (.bool true) 303 [(.var 1)] 2 (.call (.bool true) 333 [(.var 7),(.var 9)] 2 (.assert (.bi .ge (.int .u64 20) (.int .i64 0)) (.assert (.bi .ge (.int .u64 44) (.int .i64 0)) (.assert (.bi .ge (.int .u64 20) (.int .i64 0)) (.call (.bool true) 305 [(.bi .bne (.var 2) (.var 3)),(.bi (.or .u64) (.bi (.shl .u64) (.var 11) (.int .u64 20)) (.bi (.shr .u64) (.var 12) (.int .u64 44))),(.bi (.add .i64) (.bi (.add .i64) (.var 8) (.var 10)) (.int .i64 44)),(.bi .ne (.bi (.shl .u64) (.var 12) (.int .u64 20)) (.int .u64 0))] 2 (.yield .ret [(.var 13),(.var 14)])))))))))))))))))
def sp302:Spec:=⟨[(false,[.sc (.i .u64)]),(false,[.sc (.i .u64)])],[(false,[.sc .b])]⟩
def tr302:TT Unit:=(.scope (.call (.bool true) 281 [(.var 0)] 1 (.ite (.bi .eq (.var 2) (.int .i64 4)) (.yield .norm []) (.call (.bool true) 281 [(.var 1)] 1 (.ite (.bi .eq (.var 3) (.int .i64 4)) (.yield .norm []) (.yield (.ext 0) []))))) (.cons .norm (.yield .ret [(.bool true)]) (.cons (.ext 0) (.yield .ret [(.bool false)]) .nil)))
def sp303:Spec:=⟨[(false,[.sc (.i .u64)])],[(false,[.sc (.i .u64)]),(false,[.sc (.i .i64)])]⟩
def tr303:TT Unit:=(.call (.bool true) 285 [(.var 0)] 2 (.call (.bool true) 331 [(.var 1)] 1 (.assert (.bi .ge (.bi (.sub .i64) (.var 3) (.int .i64 11)) (.int .i64 0)) (.yield .ret [(.bi (.shl .u64) (.var 1) (.bi (.sub .i64) (.var 3) (.int .i64 11))),(.bi (.sub .i64) (.var 2) (.bi (.sub .i64) (.var 3) (.int .i64 11)))]))))
def sp304:Spec:=⟨[(false,[.sc (.i .u64)]),(false,[.sc .b])],[(false,[.sc (.i .u64)])]⟩
def tr304:TT Unit:=(.ite (.var 1) (.call (.bool true) 282 [(.var 0)] 1 (.yield .ret [(.var 2)])) (.yield .ret [(.var 0)]))
def sp305:Spec:=⟨[(false,[.sc .b]),(false,[.sc (.i .u64)]),(false,[.sc (.i .i64)]),(false,[.sc .b])],[(false,[.sc (.i .u64)]),(false,[.sc (.i .u8)])]⟩
def lo305_1:TT Unit:=(.ite (.tri .ite (.bi .lt (.var 5) (.int .i64 (-1130))) (.bi .gt (.var 4) (.int .u64 1)) (.bool false)) (.assert (.bi .ge (.int .u64 1) (.int .i64 0)) (.yield .cont [(.bi (.shr .u64) (.var 4) (.int .u64 1)),(.bi (.add .i64) (.var 5) (.int .i64 1)),(.tri .ite (.var 6) (.bool true) (.bi .eq (.bi (.and .u64) (.var 4) (.int .u64 1)) (.int .u64 1)))])) (.yield (.ext 0) [(.var 4),(.var 5),(.var 6)]))
def tr305:TT Unit:=(.loop [(.var 1),(.var 2),(.var 3)] lo305_1 (.cons (.ext 0) (.ite (.bi .lt (.var 5) (.int .i64 (-1130))) (.call (.bool true) 283 [(.var 0),(.int .u64 0),(.int .i64 (-1074)),(.bool true)] 2 (.yield .ret [(.var 7),(.var 8)])) (.call (.bool true) 283 [(.var 0),(.var 4),(.var 5),(.var 6)] 2 (.yield .ret [(.var 7),(.var 8)]))) .nil))
def sp306:Spec:=⟨[(false,[.sc (.i .u64)]),(false,[.sc (.i .u64)])],[(false,[.sc (.i .u64)])]⟩
def tr306:TT Unit:=(.call (.bool true) 288 [(.var 0),(.var 1)] 2 (.yield .ret [(.var 2)]))
def sp309:Spec:=⟨[(false,[.ro (.sc (.i .u64))])],[(false,[.sc (.i .u64)])]⟩
def lo309_1:TT Unit:=(.ite (.bi .lt (.var 3) (.un .len (.var 0))) (.assert (.bi .le (.int .i64 0) (.var 3)) (.assert (.bi .lt (.var 3) (.un .len (.var 0))) (.call (.bool true) 281 [(.bi .get (.var 0) (.var 3))] 1 (.ite (.bi .eq (.var 4) (.int .i64 4)) (.yield .ret [(.var 2)]) (.call (.bool true) 3 [(.bi .get (.var 0) (.var 3))] 1 (.yield .cont [(.var 1),(.bi (.max .u64) (.var 2) (.var 5)),(.bi (.add .i64) (.var 3) (.int .i64 1))])))))) (.yield (.ext 0) [(.var 1),(.var 2)]))
def tr309:TT Unit:=(.loop [(.int .u64 0),(.int .u64 0),(.int .i64 0)] lo309_1 (.cons .ret (.yield .ret [(.int .u64 9221120237041090560)]) (.cons (.ext 0) (.yield .ret [(.var 2)]) .nil)))
def sp310:Spec:=⟨[(false,[.sc (.i .u64)]),(false,[.sc (.i .u64)])],[(false,[.sc (.i .u64)])]⟩
def tr310:TT Unit:=(.call (.bool true) 300 [(.var 0),(.var 1)] 2 (.yield .ret [(.var 2)]))
def sp311:Spec:=⟨[(false,[.ro (.sc (.i .u64))]),(false,[.ro (.sc (.i .u64))])],[(false,[.sc (.i .u64)]),(false,[.sc (.i .i64)])]⟩
def lo311_1:TT Unit:=(.ite (.bi .lt (.var 4) (.un .len (.var 0))) (.assert (.bi .le (.int .i64 0) (.var 4)) (.assert (.bi .lt (.var 4) (.un .len (.var 0))) (.assert (.bi .le (.int .i64 0) (.var 4)) (.assert (.bi .lt (.var 4) (.un .len (.var 1))) (.call (.bool true) 313 [(.bi .get (.var 0) (.var 4)),(.bi .get (.var 1) (.var 4))] 1 (.call (.bool true) 306 [(.var 3),(.var 5)] 1 (.yield .cont [(.var 6),(.bi (.add .i64) (.var 4) (.int .i64 1))]))))))) (.yield (.ext 0) [(.var 3)]))
def tr311:TT Unit:=(.call (.bool true) 321 [(.var 0),(.var 1)] 1 (.ite (.un .not (.var 2)) (.yield .ret [(.int .u64 0),(.int .i64 3)]) (.loop [(.int .u64 0),(.int .i64 0)] lo311_1 (.cons (.ext 0) (.yield .ret [(.var 3),(.int .i64 0)]) .nil))))
def sp312:Spec:=⟨[(false,[.ro (.sc (.i .u64))])],[(false,[.sc .b])]⟩
def lo312_1:TT Unit:=(.ite (.bi .lt (.var 2) (.un .len (.var 0))) (.assert (.bi .le (.int .i64 0) (.var 2)) (.assert (.bi .lt (.var 2) (.un .len (.var 0))) (.call (.bool true) 280 [(.bi .get (.var 0) (.var 2))] 1 (.ite (.un .not (.var 3)) (.yield .ret []) (.yield .cont [(.var 1),(.bi (.add .i64) (.var 2) (.int .i64 1))]))))) (.yield (.ext 0) [(.var 1)]))
def tr312:TT Unit:=(.loop [(.bool false),(.int .i64 0)] lo312_1 (.cons .ret (.yield .ret [(.bool false)]) (.cons (.ext 0) (.yield .ret [(.bool true)]) .nil)))
def sp313:Spec:=⟨[(false,[.sc (.i .u64)]),(false,[.sc (.i .u64)])],[(false,[.sc (.i .u64)])]⟩
def tr313:TT Unit:=(.call (.bool true) 301 [(.var 0),(.var 1)] 2 (.yield .ret [(.var 2)]))
def sp314:Spec:=⟨[(false,[.ro (.sc (.i .u64))])],[(false,[.sc (.i .u64)]),(false,[.sc (.i .i64)])]⟩
def lo314_1:TT Unit:=(.ite (.bi .lt (.var 5) (.un .len (.var 0))) (.assert (.bi .le (.int .i64 0) (.var 5)) (.assert (.bi .lt (.var 5) (.un .len (.var 0))) (.call (.bool true) 315 [(.bi .get (.var 0) (.var 5)),(.un (.neg .i64) (.var 3))] 1 (.call (.bool true) 313 [(.var 6),(.var 6)] 1 (.call (.bool true) 306 [(.var 4),(.var 7)] 1 (.yield .cont [(.var 8),(.bi (.add .i64) (.var 5) (.int .i64 1))])))))) (.yield (.ext 0) [(.var 4)]))
def tr314:TT Unit:=(.ite (.bi .gt (.un .len (.var 0)) (.int .i64 64)) (.yield .ret [(.int .u64 0),(.int .i64 3)]) (.call (.bool true) 309 [(.var 0)] 1 (.call (.un .not (.bi .eq (.var 1) (.int .u64 0))) 280 [(.var 1)] 1 (.ite (.tri .ite (.bi .eq (.var 1) (.int .u64 0)) (.bool true) (.un .not (.var 2))) (.yield .ret [(.var 1),(.int .i64 0)]) (.call (.bool true) 5 [(.var 1)] 1 (.loop [(.int .u64 0),(.int .i64 0)] lo314_1 (.cons (.ext 0) (.call (.bool true) 316 [(.var 4)] 1 (.call (.bool true) 315 [(.var 5),(.var 3)] 1 (.yield .ret [(.var 6),(.int .i64 0)]))) .nil)))))))
def sp315:Spec:=⟨[(false,[.sc (.i .u64)]),(false,[.sc (.i .i64)])],[(false,[.sc (.i .u64)])]⟩
def tr315:TT Unit:=(.call (.bool true) 10 [(.var 0),(.var 1)] 2 (.yield .ret [(.var 2)]))
def sp316:Spec:=⟨[(false,[.sc (.i .u64)])],[(false,[.sc (.i .u64)])]⟩
def tr316:TT Unit:=(.call (.bool true) 272 [(.var 0)] 2 (.yield .ret [(.var 1)]))
def sp317:Spec:=⟨[(false,[.sc (.i .u64)]),(false,[.sc (.i .u64)])],[(false,[.sc (.i .u64)])]⟩
def tr317:TT Unit:=(.call (.bool true) 289 [(.var 0),(.var 1)] 2 (.yield .ret [(.var 2)]))
def sp321:Spec:=⟨[(false,[.ro (.sc (.i .u64))]),(false,[.ro (.sc (.i .u64))])],[(false,[.sc .b])]⟩
def tr321:TT Unit:=(.yield .ret [(.tri .ite (.bi .eq (.un .len (.var 0)) (.un .len (.var 1))) (.bi .le (.un .len (.var 0)) (.int .i64 64)) (.bool false))])
def sp331:Spec:=⟨[(false,[.sc (.i .u64)])],[(false,[.sc (.i .i64)])]⟩
def tr331:TT Unit:=(.call (.bool true) 332 [(.var 0)] 1 (.yield .ret [(.bi (.sub .i64) (.int .i64 64) (.var 1))]))
def sp332:Spec:=⟨[(false,[.sc (.i .u64)])],[(false,[.sc (.i .i64)])]⟩
def tr332:TT Unit:=(.scope (.ite (.bi .ge (.var 0) (.int .u64 4294967296)) (.assert (.bi .ge (.int .u64 32) (.int .i64 0)) (.yield .norm [(.bi (.shr .u64) (.var 0) (.int .u64 32)),(.int .i64 32)])) (.yield .norm [(.var 0),(.int .i64 0)])) (.cons .norm (.scope (.ite (.bi .ge (.var 1) (.int .u64 65536)) (.assert (.bi .ge (.int .u64 16) (.int .i64 0)) (.yield .norm [(.bi (.shr .u64) (.var 1) (.int .u64 16)),(.bi (.add .i64) (.var 2) (.int .i64 16))])) (.yield .norm [(.var 1),(.var 2)])) (.cons .norm (.scope (.ite (.bi .ge (.var 3) (.int .u64 256)) (.assert (.bi .ge (.int .u64 8) (.int .i64 0)) (.yield .norm [(.bi (.shr .u64) (.var 3) (.int .u64 8)),(.bi (.add .i64) (.var 4) (.int .i64 8))])) (.yield .norm [(.var 3),(.var 4)])) (.cons .norm (.assert (.bi .le (.int .i64 0) (.un (.conv .u8) (.var 5))) (.assert (.bi .lt (.un (.conv .u8) (.var 5)) (.int .i64 256)) (.yield .ret [(.bi (.add .i64) (.var 6) (.un (.conv .i64) (.un .tab8 (.un (.conv .u8) (.var 5)))))]))) .nil)) .nil)) .nil))
def sp333:Spec:=⟨[(false,[.sc (.i .u64)]),(false,[.sc (.i .u64)])],[(false,[.sc (.i .u64)]),(false,[.sc (.i .u64)])]⟩
def tr333:TT Unit:=(.assert (.bi .ge (.int .u64 32) (.int .i64 0)) (.assert (.bi .ge (.int .u64 32) (.int .i64 0)) (.assert (.bi .ge (.int .u64 32) (.int .i64 0)) (.assert (.bi .ge (.int .u64 32) (.int .i64 0)) (.assert (.bi .ge (.int .u64 32) (.int .i64 0)) (.yield .ret [(.bi (.add .u64) (.bi (.add .u64) (.bi (.mul .u64) (.bi (.shr .u64) (.var 0) (.int .u64 32)) (.bi (.shr .u64) (.var 1) (.int .u64 32))) (.bi (.shr .u64) (.bi (.add .u64) (.bi (.mul .u64) (.bi (.shr .u64) (.var 0) (.int .u64 32)) (.bi (.and .u64) (.var 1) (.int .u64 4294967295))) (.bi (.shr .u64) (.bi (.mul .u64) (.bi (.and .u64) (.var 0) (.int .u64 4294967295)) (.bi (.and .u64) (.var 1) (.int .u64 4294967295))) (.int .u64 32))) (.int .u64 32))) (.bi (.shr .u64) (.bi (.add .u64) (.bi (.and .u64) (.bi (.add .u64) (.bi (.mul .u64) (.bi (.shr .u64) (.var 0) (.int .u64 32)) (.bi (.and .u64) (.var 1) (.int .u64 4294967295))) (.bi (.shr .u64) (.bi (.mul .u64) (.bi (.and .u64) (.var 0) (.int .u64 4294967295)) (.bi (.and .u64) (.var 1) (.int .u64 4294967295))) (.int .u64 32))) (.int .u64 4294967295)) (.bi (.mul .u64) (.bi (.and .u64) (.var 0) (.int .u64 4294967295)) (.bi (.shr .u64) (.var 1) (.int .u64 32)))) (.int .u64 32))),(.bi (.mul .u64) (.var 0) (.var 1))]))))))
def sp8:Spec:=⟨[(false,[.sc (.i .u64)]),(false,[.sc (.i .u64)])],[(false,[.sc (.i .u64)])]⟩
def tr8:TT Unit:=(.call (.bool true) 9 [(.var 0),(.var 1)] 2 (.ite (.un .not (.var 3)) (.yield .ret [(.int .u64 9221120237041090560)]) (.ite (.bi .lt (.var 2) (.int .i64 0)) (.yield .ret [(.var 1)]) (.yield .ret [(.var 0)]))))
def spc:Nat→Option Spec
  | 2=>some sp2
  | 3=>some sp3
  | 5=>some sp5
  | 7=>some sp7
  | 8=>some sp8
  | 9=>some sp9
  | 10=>some sp10
  | 12=>some sp12
  | 68=>some sp68
  | 69=>some sp69
  | 86=>some sp86
  | 88=>some sp88
  | 89=>some sp89
  | 90=>some sp90
  | 91=>some sp91
  | 92=>some sp92
  | 93=>some sp93
  | 94=>some sp94
  | 95=>some sp95
  | 96=>some sp96
  | 98=>some sp98
  | 99=>some sp99
  | 100=>some sp100
  | 101=>some sp101
  | 102=>some sp102
  | 103=>some sp103
  | 106=>some sp106
  | 110=>some sp110
  | 114=>some sp114
  | 115=>some sp115
  | 116=>some sp116
  | 117=>some sp117
  | 118=>some sp118
  | 119=>some sp119
  | 120=>some sp120
  | 121=>some sp121
  | 122=>some sp122
  | 125=>some sp125
  | 126=>some sp126
  | 128=>some sp128
  | 134=>some sp134
  | 141=>some sp141
  | 150=>some sp150
  | 166=>some sp166
  | 177=>some sp177
  | 181=>some sp181
  | 238=>some sp238
  | 239=>some sp239
  | 240=>some sp240
  | 241=>some sp241
  | 242=>some sp242
  | 243=>some sp243
  | 244=>some sp244
  | 245=>some sp245
  | 246=>some sp246
  | 247=>some sp247
  | 248=>some sp248
  | 249=>some sp249
  | 257=>some sp257
  | 258=>some sp258
  | 259=>some sp259
  | 262=>some sp262
  | 263=>some sp263
  | 264=>some sp264
  | 265=>some sp265
  | 266=>some sp266
  | 267=>some sp267
  | 272=>some sp272
  | 274=>some sp274
  | 280=>some sp280
  | 281=>some sp281
  | 282=>some sp282
  | 283=>some sp283
  | 284=>some sp284
  | 285=>some sp285
  | 286=>some sp286
  | 287=>some sp287
  | 288=>some sp288
  | 289=>some sp289
  | 290=>some sp290
  | 291=>some sp291
  | 300=>some sp300
  | 301=>some sp301
  | 302=>some sp302
  | 303=>some sp303
  | 304=>some sp304
  | 305=>some sp305
  | 306=>some sp306
  | 309=>some sp309
  | 310=>some sp310
  | 311=>some sp311
  | 312=>some sp312
  | 313=>some sp313
  | 314=>some sp314
  | 315=>some sp315
  | 316=>some sp316
  | 317=>some sp317
  | 321=>some sp321
  | 331=>some sp331
  | 332=>some sp332
  | 333=>some sp333
  | _=>none
def tab:Nat→Option (TT Unit)
  | 2=>some tr2
  | 3=>some tr3
  | 5=>some tr5
  | 7=>some tr7
  | 8=>some tr8
  | 9=>some tr9
  | 10=>some tr10
  | 12=>some tr12
  | 68=>some tr68
  | 69=>some tr69
  | 86=>some tr86
  | 88=>some tr88
  | 89=>some tr89
  | 90=>some tr90
  | 91=>some tr91
  | 92=>some tr92
  | 93=>some tr93
  | 94=>some tr94
  | 95=>some tr95
  | 96=>some tr96
  | 98=>some tr98
  | 99=>some tr99
  | 100=>some tr100
  | 101=>some tr101
  | 102=>some tr102
  | 103=>some tr103
  | 106=>some tr106
  | 110=>some tr110
  | 114=>some tr114
  | 115=>some tr115
  | 116=>some tr116
  | 117=>some tr117
  | 118=>some tr118
  | 119=>some tr119
  | 120=>some tr120
  | 121=>some tr121
  | 122=>some tr122
  | 125=>some tr125
  | 126=>some tr126
  | 128=>some tr128
  | 134=>some tr134
  | 141=>some tr141
  | 150=>some tr150
  | 166=>some tr166
  | 177=>some tr177
  | 181=>some tr181
  | 238=>some tr238
  | 239=>some tr239
  | 240=>some tr240
  | 241=>some tr241
  | 242=>some tr242
  | 243=>some tr243
  | 244=>some tr244
  | 245=>some tr245
  | 246=>some tr246
  | 247=>some tr247
  | 248=>some tr248
  | 249=>some tr249
  | 257=>some tr257
  | 258=>some tr258
  | 259=>some tr259
  | 262=>some tr262
  | 263=>some tr263
  | 264=>some tr264
  | 265=>some tr265
  | 266=>some tr266
  | 267=>some tr267
  | 272=>some tr272
  | 274=>some tr274
  | 280=>some tr280
  | 281=>some tr281
  | 282=>some tr282
  | 283=>some tr283
  | 284=>some tr284
  | 285=>some tr285
  | 286=>some tr286
  | 287=>some tr287
  | 288=>some tr288
  | 289=>some tr289
  | 290=>some tr290
  | 291=>some tr291
  | 300=>some tr300
  | 301=>some tr301
  | 302=>some tr302
  | 303=>some tr303
  | 304=>some tr304
  | 305=>some tr305
  | 306=>some tr306
  | 309=>some tr309
  | 310=>some tr310
  | 311=>some tr311
  | 312=>some tr312
  | 313=>some tr313
  | 314=>some tr314
  | 315=>some tr315
  | 316=>some tr316
  | 317=>some tr317
  | 321=>some tr321
  | 331=>some tr331
  | 332=>some tr332
  | 333=>some tr333
  | _=>none
theorem tab2:tab 2=some tr2:=rfl
theorem tab3:tab 3=some tr3:=rfl
theorem tab5:tab 5=some tr5:=rfl
theorem tab7:tab 7=some tr7:=rfl
theorem tab8:tab 8=some tr8:=rfl
theorem tab9:tab 9=some tr9:=rfl
theorem tab10:tab 10=some tr10:=rfl
theorem tab12:tab 12=some tr12:=rfl
theorem tab68:tab 68=some tr68:=rfl
theorem tab69:tab 69=some tr69:=rfl
theorem tab86:tab 86=some tr86:=rfl
theorem tab88:tab 88=some tr88:=rfl
theorem tab89:tab 89=some tr89:=rfl
theorem tab90:tab 90=some tr90:=rfl
theorem tab91:tab 91=some tr91:=rfl
theorem tab92:tab 92=some tr92:=rfl
theorem tab93:tab 93=some tr93:=rfl
theorem tab94:tab 94=some tr94:=rfl
theorem tab95:tab 95=some tr95:=rfl
theorem tab96:tab 96=some tr96:=rfl
theorem tab98:tab 98=some tr98:=rfl
theorem tab99:tab 99=some tr99:=rfl
theorem tab100:tab 100=some tr100:=rfl
theorem tab101:tab 101=some tr101:=rfl
theorem tab102:tab 102=some tr102:=rfl
theorem tab103:tab 103=some tr103:=rfl
theorem tab106:tab 106=some tr106:=rfl
theorem tab110:tab 110=some tr110:=rfl
theorem tab114:tab 114=some tr114:=rfl
theorem tab115:tab 115=some tr115:=rfl
theorem tab116:tab 116=some tr116:=rfl
theorem tab117:tab 117=some tr117:=rfl
theorem tab118:tab 118=some tr118:=rfl
theorem tab119:tab 119=some tr119:=rfl
theorem tab120:tab 120=some tr120:=rfl
theorem tab121:tab 121=some tr121:=rfl
theorem tab122:tab 122=some tr122:=rfl
theorem tab125:tab 125=some tr125:=rfl
theorem tab126:tab 126=some tr126:=rfl
theorem tab128:tab 128=some tr128:=rfl
theorem tab134:tab 134=some tr134:=rfl
theorem tab141:tab 141=some tr141:=rfl
theorem tab150:tab 150=some tr150:=rfl
theorem tab166:tab 166=some tr166:=rfl
theorem tab177:tab 177=some tr177:=rfl
theorem tab181:tab 181=some tr181:=rfl
theorem tab238:tab 238=some tr238:=rfl
theorem tab239:tab 239=some tr239:=rfl
theorem tab240:tab 240=some tr240:=rfl
theorem tab241:tab 241=some tr241:=rfl
theorem tab242:tab 242=some tr242:=rfl
theorem tab243:tab 243=some tr243:=rfl
theorem tab244:tab 244=some tr244:=rfl
theorem tab245:tab 245=some tr245:=rfl
theorem tab246:tab 246=some tr246:=rfl
theorem tab247:tab 247=some tr247:=rfl
theorem tab248:tab 248=some tr248:=rfl
theorem tab249:tab 249=some tr249:=rfl
theorem tab257:tab 257=some tr257:=rfl
theorem tab258:tab 258=some tr258:=rfl
theorem tab259:tab 259=some tr259:=rfl
theorem tab262:tab 262=some tr262:=rfl
theorem tab263:tab 263=some tr263:=rfl
theorem tab264:tab 264=some tr264:=rfl
theorem tab265:tab 265=some tr265:=rfl
theorem tab266:tab 266=some tr266:=rfl
theorem tab267:tab 267=some tr267:=rfl
theorem tab272:tab 272=some tr272:=rfl
theorem tab274:tab 274=some tr274:=rfl
theorem tab280:tab 280=some tr280:=rfl
theorem tab281:tab 281=some tr281:=rfl
theorem tab282:tab 282=some tr282:=rfl
theorem tab283:tab 283=some tr283:=rfl
theorem tab284:tab 284=some tr284:=rfl
theorem tab285:tab 285=some tr285:=rfl
theorem tab286:tab 286=some tr286:=rfl
theorem tab287:tab 287=some tr287:=rfl
theorem tab288:tab 288=some tr288:=rfl
theorem tab289:tab 289=some tr289:=rfl
theorem tab290:tab 290=some tr290:=rfl
theorem tab291:tab 291=some tr291:=rfl
theorem tab300:tab 300=some tr300:=rfl
theorem tab301:tab 301=some tr301:=rfl
theorem tab302:tab 302=some tr302:=rfl
theorem tab303:tab 303=some tr303:=rfl
theorem tab304:tab 304=some tr304:=rfl
theorem tab305:tab 305=some tr305:=rfl
theorem tab306:tab 306=some tr306:=rfl
theorem tab309:tab 309=some tr309:=rfl
theorem tab310:tab 310=some tr310:=rfl
theorem tab311:tab 311=some tr311:=rfl
theorem tab312:tab 312=some tr312:=rfl
theorem tab313:tab 313=some tr313:=rfl
theorem tab314:tab 314=some tr314:=rfl
theorem tab315:tab 315=some tr315:=rfl
theorem tab316:tab 316=some tr316:=rfl
theorem tab317:tab 317=some tr317:=rfl
theorem tab321:tab 321=some tr321:=rfl
theorem tab331:tab 331=some tr331:=rfl
theorem tab332:tab 332=some tr332:=rfl
theorem tab333:tab 333=some tr333:=rfl
end Go.Proofs.YthchhkghjfendaaGreat.Dx
