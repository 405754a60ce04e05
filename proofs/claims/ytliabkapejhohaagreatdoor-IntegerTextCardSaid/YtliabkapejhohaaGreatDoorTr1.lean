/- MERGED by merge.py: TrI TrQ TrT TrW -/
import Derived.Test.YtliabkapejhohaaGreatDoorSx1
namespace Go.Proofs.YtliabkapejhohaaGreatDoor.Sp
open Go Go.Proofs.YtliabkapejhohaaGreatDoor.Sx
def t_integer_of : T := .ite 0 (.pure (.bin .neq 9 .true) [.one (.var 1), .one (.const (.string ⟨#[]⟩))] (.ret [.var 2, .var 1])) (.ret [.const (.bool .false), .var 1])
def t_integer_Normalize : T := .call 96 [.var 1] 1 (.call 57 [.var 0, .var 2] 2 (.ret [.var 3, .var 4]))
def t_integer_Neg : T := .call 61 [.var 0, .var 1] 2 (.pure (.un .not) [.one (.var 2)] (.call 57 [.var 4, .var 3] 2 (.ret [.var 5, .var 6])))
def t_integer_Add : T := .call 61 [.var 0, .var 1] 2 (.call 61 [.var 2, .var 3] 2 (.pure (.bin .eql 4 .false) [.one (.var 4), .one (.var 6)] (.ite 8 (.call 94 [.var 5, .var 7] 1 (.call 57 [.var 4, .var 9] 2 (.ret [.var 10, .var 11]))) (.call 95 [.var 5, .var 7] 2 (.ite 10 (.call 57 [.var 4, .var 9] 2 (.ret [.var 11, .var 12])) (.call 95 [.var 7, .var 5] 2 (.call 57 [.var 6, .var 11] 2 (.ret [.var 13, .var 14]))))))))
def t_integer_Sub : T := .call 84 [.var 2, .var 3] 2 (.call 91 [.var 0, .var 1, .var 4, .var 5] 2 (.ret [.var 6, .var 7]))
def t_integer_Mul : T := .call 61 [.var 0, .var 1] 2 (.call 61 [.var 2, .var 3] 2 (.pure (.bin .neq 4 .false) [.one (.var 4), .one (.var 6)] (.call 71 [.var 5, .var 7] 1 (.call 57 [.var 8, .var 9] 2 (.ret [.var 10, .var 11])))))
def t_integer_Sign : T := .call 61 [.var 0, .var 1] 2 (.ite 2 (.ret [.const (.int .i64 (-1))]) (.pure (.bin .neq 9 .true) [.one (.var 3), .one (.const (.string ⟨#[]⟩))] (.ite 4 (.ret [.const (.int .i64 1)]) (.ret [.const (.int .i64 0)]))))
def t_integer_Cmp : T := .call 119 [.var 0, .var 1, .var 2, .var 3] 2 (.call 21 [.var 4, .var 5] 1 (.ret [.var 6]))
def t_integer_FromInt64 : T := .pure (.bin .lss 2 .true) [.one (.var 0), .one (.const (.int .i64 0))] (.ite 1 (.pure (.bin .add 2 .true) [.one (.var 0), .one (.const (.int .i64 1))] (.pure (.un .neg) [.one (.var 2)] (.pure (.conv 2 68) [.one (.var 3)] (.pure (.bin .add 68 .true) [.one (.var 4), .one (.const (.int .u64 1))] (.call 89 [.var 5] 1 (.call 57 [.const (.bool .true), .var 6] 2 (.ret [.var 7, .var 8]))))))) (.pure (.conv 2 68) [.one (.var 0)] (.call 89 [.var 2] 1 (.call 57 [.const (.bool .false), .var 3] 2 (.ret [.var 4, .var 5])))))
def t_integer_Format : T := .call 61 [.var 0, .var 1] 2 (.ite 2 (.call 64 [.var 3] 1 (.pure (.bin .add 9 .true) [.one (.const (.string ⟨#[45]⟩)), .one (.var 4)] (.ret [.var 5]))) (.call 64 [.var 3] 1 (.ret [.var 4])))
def t_integer_Div : T := .call 61 [.var 0, .var 1] 2 (.call 61 [.var 2, .var 3] 2 (.call 70 [.var 5, .var 7] 3 (.pure (.un .not) [.one (.var 10)] (.ite 11 (.ret [.const (.bool .false), .const (.string ⟨#[]⟩), .const (.bool .false), .const (.string ⟨#[]⟩), .const (.bool .false)]) (.ite 4 (.pure (.bin .neq 9 .true) [.one (.var 9), .one (.const (.string ⟨#[]⟩))] (.ite 12 (.call 89 [.const (.int .u64 1)] 1 (.call 94 [.var 8, .var 13] 1 (.call 96 [.var 7] 1 (.call 95 [.var 15, .var 9] 2 (.pure (.bin .neq 4 .false) [.one (.var 4), .one (.var 6)] (.call 57 [.var 18, .var 14] 2 (.call 57 [.const (.bool .false), .var 16] 2 (.ret [.var 19, .var 20, .var 21, .var 22, .const (.bool .true)])))))))) (.pure (.bin .neq 4 .false) [.one (.var 4), .one (.var 6)] (.call 57 [.var 13, .var 8] 2 (.call 57 [.const (.bool .false), .var 9] 2 (.ret [.var 14, .var 15, .var 16, .var 17, .const (.bool .true)])))))) (.pure (.bin .neq 4 .false) [.one (.var 4), .one (.var 6)] (.call 57 [.var 12, .var 8] 2 (.call 57 [.const (.bool .false), .var 9] 2 (.ret [.var 13, .var 14, .var 15, .var 16, .const (.bool .true)])))))))))
end Go.Proofs.YtliabkapejhohaaGreatDoor.Sp
namespace Go.Proofs.YtliabkapejhohaaGreatDoor.Sp
open Go Go.Proofs.YtliabkapejhohaaGreatDoor.Sx
end Go.Proofs.YtliabkapejhohaaGreatDoor.Sp
namespace Go.Proofs.YtliabkapejhohaaGreatDoor.Sp
open Go Go.Proofs.YtliabkapejhohaaGreatDoor.Sx
end Go.Proofs.YtliabkapejhohaaGreatDoor.Sp
namespace Go.Proofs.YtliabkapejhohaaGreatDoor.Sp
open Go Go.Proofs.YtliabkapejhohaaGreatDoor.Sx
end Go.Proofs.YtliabkapejhohaaGreatDoor.Sp
