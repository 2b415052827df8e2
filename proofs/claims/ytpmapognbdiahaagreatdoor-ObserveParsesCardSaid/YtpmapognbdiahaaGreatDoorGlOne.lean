/- The variables that are only read, as this seat's proof looks at them: check.keywords and lexer.words. -/
import Derived.Test.YtpmapognbdiahaaGreatDoorAbs0One
set_option linter.all false
namespace Go.Abs
open Go
def kwD:List D:=[.str [114,111,108,101],.int .i64 1,.bool true,.bool true,.str [105,110,105,116],.int .i64 1,.bool true,.bool false,.str [116,114,117,101],.int .i64 1,.bool false,.bool true,.str [100,111,101,115],.int .i64 2,.bool false,.bool true,.str [108,101,103,97,108],.int .i64 2,.bool true,.bool false,.str [110,101,120,116],.int .i64 1,.bool true,.bool false,.str [116,101,114,109,105,110,97,108],.int .i64 0,.bool true,.bool false,.str [103,111,97,108],.int .i64 2,.bool true,.bool false,.str [115,101,101,115],.int .i64 2,.bool true,.bool false,.str [100,105,115,116,105,110,99,116],.int .i64 2,.bool false,.bool true]
def wdD:List D:=[.str [105,102],.str [97,110,100],.str [110,111,116]]
def glw (g:Nat):List D:=match Nat.beq g 1 with | true=>kwD | false=>match Nat.beq g 2 with | true=>wdD | false=>[]
end Go.Abs
