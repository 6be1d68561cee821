import Derived.Test.YtmfkjilndpchbaaAb18
namespace Go.Ab
open Go
abbrev Rd (H:Hp)(v:Value)(cs:List Value):Prop:=Arr H 1 (fun _=>True) v cs
end Go.Ab
